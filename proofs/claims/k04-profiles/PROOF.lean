import PyProof.Rows.All
import HandS.ForMost
import HandS.DictComp
import HandS.IsInst
import HandS.Flow
import HandS.Exc
import HandS.TryOnly
import HandS.ExcOwn
import HandS.WordsExc
import HandS.Conv
import HandS.TupAny
import HandS.TupLen
import HandS.CallSlots
import HandS.SortInts
import HandS.Style
import HandS.Replace
import KE.LtData
import KE.DataCmp
import KE.DataEq
import KE.DataAny
import KE.DataFind
import KE.DataIsa
import KE.DataMinMax
import KE.SortData
import HandS.Wide
import HandS.More
import HandS.Rev
import HandS.Star
import HandS.Zip
import HandS.Keys
import KE.KDictZip
import KE.GoesEnum
import HandS.Set
import HandS.SetFor
import HandS.TupSets
import KE.GoesMore
import KE.GoesZip
import HandS.WideMore
import HandS.Defaults
import HandS.Head0
import HandS.Head1
import HandS.Head2
import HandS.HeadEnd
import HandS.HeadHook1
import HandS.HeadHook2
import PyProof.ExcBaseAll.ValueError
import HandS.ExcIs
import HandS.HotCalls
import HandS.Ends
import PySem.Challenge.RW_signward_k04_whole_long_profiles
set_option Elab.async false
set_option linter.all false
set_option maxRecDepth 100000
/-! Mir, part A: data, outcomes, the small language and what it means. -/
namespace Mir
open PySem

/-- an outcome -/
inductive R (α : Type) where
  | ok (a : α)
  | exc (x : Str) (l : List PyData)
  | bad
def R.bind {α β : Type} (r : R α) (f : α → R β) : R β := match r with
  | .ok a => f a
  | .exc x l => .exc x l
  | .bad => .bad
abbrev M (S α : Type) := S → R (α × S)
def bnd {S α β : Type} (m : M S α) (f : α → M S β) : M S β := fun s => (m s).bind fun p => f p.1 p.2
def lft {S α : Type} (r : R α) : M S α := fun s => r.bind fun a => .ok (a, s)
def ret {S α : Type} (a : α) : M S α := fun s => .ok (a, s)

theorem bnd_ret {S α β : Type} (a : α) (f : α → M S β) : bnd (ret a) f = f a := rfl
theorem bnd_ok {S α β : Type} {m : M S α} {f : α → M S β} {s s' : S} {a : α} (h : m s = .ok (a, s')) : bnd m f s = f a s' := by unfold bnd; rw [h]; rfl
theorem lft_ok {S α : Type} (a : α) : lft (S := S) (.ok a) = ret a := rfl

abbrev Env := List (Option PyData)

/-! ### operations on data -/
def small (i : Int) : Bool := decide (i.natAbs < 2 ^ 64)
def binD : Operator → PyData → PyData → R PyData
  | .Add, .int i, .int j => .ok (.int (i + j))
  | .Add, .str a, .str b => if a.length + b.length ≤ sizeLine then .ok (.str (a ++ b)) else .bad
  | .Add, .list a, .list b => if a.length + b.length ≤ sizeLine then .ok (.list (a ++ b)) else .bad
  | .Add, .tuple a, .tuple b => if a.length + b.length ≤ sizeLine then .ok (.tuple (a ++ b)) else .bad
  | .Sub, .int i, .int j => .ok (.int (i - j))
  | .Mult, .int i, .int j => if small i || small j then .ok (.int (i * j)) else .bad
  | .Mult, .list a, .int k => if k.natAbs < 2 ^ 62 ∧ a.length * k.toNat ≤ sizeLine then .ok (.list (List.replicate k.toNat a).flatten) else .bad
  | .FloorDiv, .int i, .int j => if 0 < j ∧ j.natAbs.log2 < 9000 then .ok (.int (i / j)) else .bad
  | .Mod, .int i, .int j => if 0 < j then .ok (.int (i % j)) else .bad
  | .Pow, .int i, .int j => if 0 ≤ j ∧ j ≤ 1000000 ∧ small i = true then .ok (.int (i ^ j.toNat)) else .bad
  | _, _, _ => .bad
def truthy : PyData → Bool
  | .none => false
  | .bool b => b
  | .int i => i != 0
  | .str x => x.length != 0
  | .list xs => !xs.isEmpty
  | .tuple xs => !xs.isEmpty
  | .dict xs => !xs.isEmpty
/-- no dict within, not too deep -/
def okD (d : PyData) : Bool := d.plain && decide (d.depth ≤ 60)
def isNone : PyData → Bool
  | .none => true
  | _ => false
def flatK : PyData → Bool
  | .int _ => true
  | .str _ => true
  | _ => false
/-- a key that is served: a number, a text, a tuple of such -/
def keyD : PyData → Bool
  | .int _ => true
  | .str _ => true
  | .tuple ds => ds.all flatK
  | _ => false
def isTup : PyData → Bool
  | .tuple _ => true
  | _ => false
/-- a key of the dict's kind -/
def kindOk (kvs : List (PyData × PyData)) (k : PyData) : Bool := keyD k && (match kvs with
  | [] => true
  | p :: _ => isTup p.1 == isTup k)
def lookD : List (PyData × PyData) → PyData → Option PyData
  | [], _ => none
  | (k, d) :: r, x => if k.eqv x then some d else lookD r x
def putD (kvs : List (PyData × PyData)) (x y : PyData) : List (PyData × PyData) := if (kvs.any fun p => p.1.eqv x) = true then kvs.map (fun p => if p.1.eqv x = true then (p.1, y) else p) else kvs ++ [(x, y)]
def ltOk (a b : PyData) : Bool := W.alike a b && !isNone a && okD a && okD b
def cmpD : CmpOp → PyData → PyData → R PyData
  | .Eq, a, b => if okD a && okD b then .ok (.bool (PyData.eqv a b)) else .bad
  | .NotEq, a, b => if okD a && okD b then .ok (.bool (!PyData.eqv a b)) else .bad
  | .Lt, a, b => if ltOk a b then .ok (.bool (W.dataLt a b)) else .bad
  | .Gt, a, b => if ltOk a b then .ok (.bool (W.dataLt b a)) else .bad
  | .LtE, a, b => if ltOk a b then .ok (.bool (!W.dataLt b a)) else .bad
  | .GtE, a, b => if ltOk a b then .ok (.bool (!W.dataLt a b)) else .bad
  | .Is, a, .none => .ok (.bool (isNone a))
  | .IsNot, a, .none => .ok (.bool (!isNone a))
  | .Is, .bool a, .bool b => .ok (.bool (decide (a = b)))
  | .IsNot, .bool a, .bool b => .ok (.bool (!decide (a = b)))
  | .In, x, .list xs => if okD x && okD (.list xs) then .ok (.bool (xs.any fun y => PyData.eqv y x)) else .bad
  | .In, x, .tuple xs => if okD x && okD (.tuple xs) then .ok (.bool (xs.any fun y => PyData.eqv y x)) else .bad
  | .In, .str x, .str y => .ok (.bool (!(Builtin.Str.occurrences y x 0 y.length 1).isEmpty))
  | .In, x, .dict kvs => if kindOk kvs x then .ok (.bool (lookD kvs x).isSome) else .bad
  | .NotIn, x, .list xs => if okD x && okD (.list xs) then .ok (.bool (!xs.any fun y => PyData.eqv y x)) else .bad
  | .NotIn, x, .tuple xs => if okD x && okD (.tuple xs) then .ok (.bool (!xs.any fun y => PyData.eqv y x)) else .bad
  | .NotIn, .str x, .str y => .ok (.bool (!(!(Builtin.Str.occurrences y x 0 y.length 1).isEmpty)))
  | .NotIn, x, .dict kvs => if kindOk kvs x then .ok (.bool (!(lookD kvs x).isSome)) else .bad
  | _, _, _ => .bad
def optR {α : Type} : Option α → R α
  | some a => .ok a
  | none => .bad
def subD : PyData → PyData → R PyData
  | .list xs, .int i => optR (L2.atI xs i)
  | .tuple xs, .int i => optR (L2.atI xs i)
  | .str x, .int i => optR ((L2.atI x.cps.toList i).map fun c => .str ⟨#[c]⟩)
  | .dict kvs, k => if kindOk kvs k then optR (lookD kvs k) else .bad
  | _, _ => .bad
def cutD (xs : List PyData) (lo hi : Option Int) : List PyData := (xs.drop (HT.sIx xs.length 0 lo)).take (HT.sIx xs.length xs.length hi - HT.sIx xs.length 0 lo)
def cutS (x : Str) (lo hi : Option Int) : Str := L2.cutS x lo hi
def cutX : PyData → Option Int → Option Int → R PyData
  | .list xs, lo, hi => .ok (.list (cutD xs lo hi))
  | .tuple xs, lo, hi => .ok (.tuple (cutD xs lo hi))
  | .str x, lo, hi => .ok (.str (cutS x lo hi))
  | _, _, _ => .bad
def intR : PyData → R Int
  | .int i => .ok i
  | _ => .bad
def itemsR : PyData → R (List PyData)
  | .list xs => .ok xs
  | .tuple xs => .ok xs
  | _ => .bad
def alikes (xs : List PyData) : Bool := xs.all fun a => okD a && !isNone a && xs.all fun b => W.alike a b
def isTup1 : PyData → Bool
  | .tuple (_ :: _) => true
  | _ => false
def sortable (xs : List PyData) : Bool := alikes xs && ((xs.all isTup1) || (xs.all fun d => !isTup d))
def sortD (xs : List PyData) : List PyData := xs.mergeSort (W.dataLe false id)
def allInts : List PyData → Option (List Int)
  | [] => some []
  | .int i :: r => (allInts r).map (i :: ·)
  | _ :: _ => none

/-- built-in functions by values -/
inductive B where
  | len | tuple_ | list_ | sorted | all_ | any_ | int_ | sum | min1 | max1 | min2 | max2 | abs | str_ | lenSet | sortedSet | listRev | listRange1 | listRange2
  deriving DecidableEq
def lenD : PyData → R PyData
  | .list xs => .ok (.int xs.length)
  | .tuple xs => .ok (.int xs.length)
  | .str x => .ok (.int x.length)
  | .dict xs => .ok (.int xs.length)
  | _ => .bad
def minR : List PyData → R PyData
  | [] => .bad
  | x :: xs => if alikes (x :: xs) then .ok (W.minD x xs) else .bad
def maxR : List PyData → R PyData
  | [] => .bad
  | x :: xs => if alikes (x :: xs) then .ok (W.maxD x xs) else .bad
def one (f : PyData → R PyData) : List PyData → R PyData
  | [d] => f d
  | _ => .bad
def two (f : PyData → PyData → R PyData) : List PyData → R PyData
  | [d, e] => f d e
  | _ => .bad
def sortedD : PyData → R PyData
  | .list xs => if sortable xs then .ok (.list (sortD xs)) else .bad
  | .dict kvs => match allInts (kvs.map (·.1)) with
    | some ns => if 0 < ns.length ∧ ns.length < 4000 then .ok (.list ((ns.mergeSort (fun i j => decide (i ≤ j))).map .int)) else .bad
    | none => .bad
  | _ => .bad
def allD : PyData → R PyData
  | .list xs => if xs.all okD then .ok (.bool (xs.all truthy)) else .bad
  | _ => .bad
def anyD : PyData → R PyData
  | .list xs => if xs.all okD then .ok (.bool (xs.any truthy)) else .bad
  | _ => .bad
def intD : PyData → R PyData
  | .int i => .ok (.int i)
  | .bool b => .ok (.int (if b then 1 else 0))
  | .str x => match PySem.intText? x with
    | some n => if x.length ≤ 640 then .ok (.int n) else .bad
    | none => .bad
  | _ => .bad
def sumD : PyData → R PyData
  | .list xs => match allInts xs with
    | some ns => .ok (.int ns.sum)
    | none => .bad
  | _ => .bad
def min2D (a b : PyData) : R PyData := (intR a).bind fun i => (intR b).bind fun j => .ok (.int (if j < i then j else i))
def max2D (a b : PyData) : R PyData := (intR a).bind fun i => (intR b).bind fun j => .ok (.int (if j > i then j else i))
def absD (a : PyData) : R PyData := (intR a).bind fun i => .ok (.int (if i < 0 then -i else i))
def strD (a : PyData) : R PyData := (intR a).bind fun i => if i.natAbs.log2 < 1920 then .ok (.str (toString i)) else .bad
def bltD : B → List PyData → R PyData
  | .len, ds => one lenD ds
  | .tuple_, ds => one (fun d => (itemsR d).bind fun xs => .ok (.tuple xs)) ds
  | .list_, ds => one (fun d => (itemsR d).bind fun xs => .ok (.list xs)) ds
  | .sorted, ds => one sortedD ds
  | .all_, ds => one allD ds
  | .any_, ds => one anyD ds
  | .int_, ds => one intD ds
  | .sum, ds => one sumD ds
  | .min1, ds => one (fun d => (itemsR d).bind minR) ds
  | .max1, ds => one (fun d => (itemsR d).bind maxR) ds
  | .min2, ds => two min2D ds
  | .max2, ds => two max2D ds
  | .abs, ds => one absD ds
  | .str_, ds => one strD ds
  | _, _ => .bad
/-- built-in classes that are asked about -/
inductive Ty where
  | int | bool | str | tuple | list | dict
  deriving DecidableEq
def isaD : Ty → PyData → Bool
  | .int, .int _ => true
  | .int, .bool _ => true
  | .bool, .bool _ => true
  | .str, .str _ => true
  | .tuple, .tuple _ => true
  | .list, .list _ => true
  | .dict, .dict _ => true
  | _, _ => false
/-- other reading forms of one, two, three parts -/
inductive O1 where
  | rev | dictOf | sortSet | lenSet
  deriving DecidableEq
inductive O2 where
  | sindex | get1 | lindex
  deriving DecidableEq
inductive O3 where
  | get2
  deriving DecidableEq
/-- pairs, as dict(..) takes them -/
def pairsD : List PyData → Option (List (PyData × PyData))
  | [] => some []
  | .tuple [k, d] :: r => if flatK k then (pairsD r).map ((k, d) :: ·) else none
  | _ :: _ => none
def mergeD (kvs : List (PyData × PyData)) (l : List (PyData × PyData)) : List (PyData × PyData) := l.foldl (fun a p => putD a p.1 p.2) kvs
/-- each once, as first met -/
def onceD (l : List PyData) : List PyData := l.foldl (fun a d => if a.any (fun x => PyData.eqv x d) = true then a else a ++ [d]) []
/-- into its place, once -/
def insU (i : Int) : List Int → List Int
  | [] => [i]
  | j :: r => if i < j then i :: j :: r else if i = j then j :: r else j :: insU i r
def sortU : List Int → List Int
  | [] => []
  | i :: r => insU i (sortU r)
def op1D : O1 → PyData → R PyData
  | .rev, .list xs => .ok (.list xs.reverse)
  | .dictOf, .list xs => match pairsD xs with
    | some l => .ok (.dict (mergeD [] l))
    | none => .bad
  | .sortSet, .list xs => match allInts xs with
    | some ns => if ns.length ≤ 4000 then .ok (.list ((sortU ns).map .int)) else .bad
    | none => .bad
  | .sortSet, .tuple xs => match allInts xs with
    | some ns => if ns.length ≤ 4000 then .ok (.list ((sortU ns).map .int)) else .bad
    | none => .bad
  | .lenSet, .list xs => if xs.all flatK = true ∧ xs.length ≤ 4000 then .ok (.int (onceD xs).length) else .bad
  | _, _ => .bad
def op2D : O2 → PyData → PyData → R PyData
  | .sindex, .str a, .str b => match Builtin.Str.occurrences a b 0 a.length 1 with
    | i :: _ => .ok (.int (i : Nat))
    | [] => .bad
  | .lindex, .list xs, .int i => match allInts xs with
    | some ns => (match ns.findIdx? fun n => decide (n = i) with
      | some j => .ok (.int (j : Nat))
      | none => .bad)
    | none => .bad
  | .get1, .dict kvs, k => if kindOk kvs k then .ok ((lookD kvs k).getD .none) else .bad
  | _, _, _ => .bad
def op3D : O3 → PyData → PyData → PyData → R PyData
  | .get2, .dict kvs, k, d => if kindOk kvs k then .ok ((lookD kvs k).getD d) else .bad
  | _, _, _, _ => .bad

/-- what the first part has to be -/
def ok2 : O2 → PyData → Bool
  | .sindex, .str _ => true
  | .get1, .dict _ => true
  | .lindex, .list _ => true
  | _, _ => false
def ok3 : O3 → PyData → Bool
  | .get2, .dict _ => true
  | _, _ => false

/-- a dict of the module, its keys and values numbers, looked up -/
def subGD (kvs : List (Int × Int)) : PyData → R PyData
  | .int k => match kvs.find? fun p => decide (p.1 = k) with
    | some p => .ok (.int p.2)
    | none => .bad
  | _ => .bad

/-! ### the language -/
/-- targets -/
inductive TgI where
  | nm (i : Nat)
  | tup (is : List Nat)
inductive Tg where
  | nm (i : Nat)
  | tup (is : List Nat)
  | mix (ts : List TgI)
mutual
inductive E (S : Type) : Type where
  | v (i : Nat)
  | int (i : Int) | bl (b : Bool) | non | str (x : Str)
  | glob (x : Str) (d : PyData)
  | bin (op : Operator) (a b : E S)
  | neg (a : E S)
  | not_ (a : E S)
  | and_ (a b : E S) | or_ (a b : E S) | one (a : E S)
  | cmp (op : CmpOp) (a b : E S)
  | chain (o1 o2 : CmpOp) (a b c : E S)
  | ite (c a b : E S)
  | tup (es : Es S) | lst (es : Es S)
  | dict0
  | sub (a i : E S)
  | sl (a lo hi : E S) | slL (a lo : E S) | slH (a hi : E S)
  | call (nm : Str) (m : List PyData → R PyData) (es : Es S)
  | callS (nm : Str) (m : List PyData → S → R (PyData × S)) (es : Es S)
  | blt (f : B) (es : Es S)
  | isa (t : Ty) (a : E S)
  | subG (x : Str) (kvs : List (Int × Int)) (i : E S)
  | op1 (f : O1) (a : E S)
  | op2 (f : O2) (a b : E S)
  | op3 (f : O3) (a b c : E S)
  | lc (elt : E S) (tg : Tg) (it : It S) (c : E S) (own : List (Str × Nat))
  | pick (fs : List (Str × (List PyData → R PyData))) (i : E S) (es : Es S)
  | disp (tu : Bool) (ss : List Bool) (es : Es S)
  | dc (ke ve : E S) (tg : Tg) (it : It S) (c : E S) (own : List (Str × Nat))
  | repr (a : E S)
  | dlit (es : Es S)
inductive Es (S : Type) : Type where
  | nil
  | cons (a : E S) (r : Es S)
/-- what is walked -/
inductive It (S : Type) : Type where
  | of (a : E S)
  | range1 (a : E S) | range2 (a b : E S)
  | zip (a b : E S)
  | enum (a : E S)
  | sign (a : E S)
  | range3 (a b c : E S)
  | rev (a : E S)
  | enumZip (a b : E S)
  | zip3 (a b c : E S)
end

def setAll : List Nat → List PyData → Env → Env
  | i :: is, d :: ds, ρ => setAll is ds (ρ.set i (some d))
  | _, _, ρ => ρ
def flatI : List TgI → List Nat
  | [] => []
  | .nm i :: r => i :: flatI r
  | .tup is :: r => is ++ flatI r
def mixD : List TgI → List PyData → Option (List PyData)
  | [], [] => some []
  | .nm _ :: r, d :: ds => (mixD r ds).map (d :: ·)
  | .tup is :: r, .tuple es :: ds => if es.length = is.length then (mixD r ds).map (es ++ ·) else none
  | _, _ => none
def asg : Tg → PyData → Env → R Env
  | .nm i, d, ρ => .ok (ρ.set i (some d))
  | .tup is, .tuple ds, ρ => if ds.length = is.length then .ok (setAll is ds ρ) else .bad
  | .tup _, _, _ => .bad
  | .mix ts, .tuple ds, ρ => match mixD ts ds with
    | some xs => .ok (setAll (flatI ts) xs ρ)
    | none => .bad
  | .mix _, _, _ => .bad
def getV (ρ : Env) (i : Nat) : R PyData := match ρ[i]? with
  | some (some d) => .ok d
  | _ => .bad
def wipeE : Env → List Nat → Env
  | ρ, [] => ρ
  | ρ, i :: r => (wipeE ρ r).set i none
def rangeD (lo : Int) (n : Nat) : List PyData := (List.range n).map fun (k : Nat) => .int (lo + (k : Int))
/-- what raises is not served here -/
def nx {S α : Type} (m : M S α) : M S α := fun s => match m s with
  | .exc _ _ => .bad
  | r => r
/-- the loop of a comprehension -/
def lcGo {S : Type} (f : PyData → M S (Option PyData)) : List PyData → M S (List PyData)
  | [] => ret []
  | x :: xs => bnd (f x) fun o => bnd (lcGo f xs) fun r => ret (match o with | some y => y :: r | none => r)
/-- .. of a comprehension that makes a dict -/
def dcGo {S : Type} (f : PyData → M S (Option (PyData × PyData))) : List PyData → List (PyData × PyData) → M S (List (PyData × PyData))
  | [], kvs => ret kvs
  | x :: xs, kvs => bnd (f x) fun o => match o with
    | some (k, y) => if flatK k = true ∧ kvs.length < sizeLine then dcGo f xs (putD kvs k y) else lft .bad
    | none => dcGo f xs kvs
/-- repr(..) of a list or tuple -/
def isSeq : PyData → Bool
  | .list _ => true
  | .tuple _ => true
  | _ => false
def reprD (d : PyData) : R PyData := if isSeq d = true ∧ d.plain = true ∧ d.showable = true ∧ d.hasDict = false ∧ d.depth ≤ 60 ∧ d.shown.length ≤ sizeLine then .ok (.str d.shown) else .bad
/-- the pairs of a dict's display -/
def pairUp : List PyData → Option (List (PyData × PyData))
  | [] => some []
  | k :: y :: r => if flatK k = true then (pairUp r).map ((k, y) :: ·) else none
  | _ => none
/-- what stands behind a star -/
def spreadR : Bool → PyData → R (List PyData)
  | true, d => itemsR d
  | false, d => .ok [d]
def partR : PyData → R Int := intR
def zipD : PyData → PyData → R (List PyData)
  | .list xs, .list ys => .ok ((xs.zip ys).map fun p => .tuple [p.1, p.2])
  | .tuple xs, .tuple ys => .ok ((xs.zip ys).map fun p => .tuple [p.1, p.2])
  | _, _ => .bad
def enumD : PyData → R (List PyData)
  | .list xs => .ok (xs.zipIdx.map fun p => .tuple [.int p.2, p.1])
  | _ => .bad
def enumZipD : PyData → PyData → R (List PyData)
  | .list xs, .list ys => .ok ((xs.zip ys).zipIdx.map fun p => .tuple [.int p.2, .tuple [p.1.1, p.1.2]])
  | _, _ => .bad
def zip3D : PyData → PyData → PyData → R (List PyData)
  | .list xs, .list ys, .list zs => .ok ((xs.zip (ys.zip zs)).map fun p => .tuple [p.1, p.2.1, p.2.2])
  | _, _, _ => .bad
def signD : PyData → R (List PyData)
  | .str z => .ok (z.cps.toList.map fun c => .str ⟨#[c]⟩)
  | _ => .bad
/-- one of some defs -/
def pickD (fs : List (Str × (List PyData → R PyData))) : PyData → Option (Str × (List PyData → R PyData))
  | .int n => if 0 ≤ n then fs[n.toNat]? else none
  | _ => none
/-- range(i, j, c) -/
def range3D (i j c : Int) : R (List PyData) := if c ≠ 0 ∧ c.natAbs < 1073741824 ∧ Builtin.Range.small i j c = true ∧ 0 ≤ Builtin.Range.rangeSize i j c ∧ Builtin.Range.rangeSize i j c ≤ sizeLine then .ok ((List.range (Builtin.Range.rangeSize i j c).toNat).map fun (k : Nat) => .int (i + (k : Int) * c)) else .bad
mutual
def ev {S : Type} : E S → Env → M S PyData
  | .v i, ρ => lft (getV ρ i)
  | .int i, _ => ret (.int i)
  | .bl b, _ => ret (.bool b)
  | .non, _ => ret .none
  | .str x, _ => if x.length ≤ sizeLine then ret (.str x) else lft .bad
  | .glob _ d, _ => ret d
  | .bin op a b, ρ => bnd (ev a ρ) fun x => bnd (ev b ρ) fun y => lft (binD op x y)
  | .neg a, ρ => bnd (ev a ρ) fun x => lft ((intR x).bind fun i => .ok (.int (-i)))
  | .not_ a, ρ => bnd (ev a ρ) fun x => ret (.bool (!truthy x))
  | .and_ a b, ρ => bnd (ev a ρ) fun x => if truthy x = true then ev b ρ else ret x
  | .or_ a b, ρ => bnd (ev a ρ) fun x => if truthy x = true then ret x else ev b ρ
  | .one a, ρ => ev a ρ
  | .cmp op a b, ρ => bnd (ev a ρ) fun x => bnd (ev b ρ) fun y => lft (cmpD op x y)
  | .chain o1 o2 a b c, ρ => bnd (ev a ρ) fun x => bnd (ev b ρ) fun y => bnd (lft (cmpD o1 x y)) fun z => if truthy z = true then bnd (ev c ρ) fun w => lft (cmpD o2 y w) else ret z
  | .ite c a b, ρ => bnd (ev c ρ) fun x => if truthy x = true then ev a ρ else ev b ρ
  | .tup es, ρ => bnd (evs es ρ) fun xs => if xs.length ≤ sizeLine then ret (.tuple xs) else lft .bad
  | .lst es, ρ => bnd (evs es ρ) fun xs => if xs.length ≤ sizeLine then ret (.list xs) else lft .bad
  | .dict0, _ => ret (.dict [])
  | .sub a i, ρ => bnd (ev a ρ) fun x => bnd (ev i ρ) fun y => lft (subD x y)
  | .slL a lo, ρ => bnd (ev a ρ) fun x => bnd (ev lo ρ) fun l => lft ((intR l).bind fun l => cutX x (some l) none)
  | .slH a hi, ρ => bnd (ev a ρ) fun x => bnd (ev hi ρ) fun h => lft ((intR h).bind fun h => cutX x none (some h))
  | .sl a lo hi, ρ => bnd (ev a ρ) fun x => bnd (ev lo ρ) fun l => bnd (lft (intR l)) fun l => bnd (ev hi ρ) fun h => lft ((intR h).bind fun h => cutX x (some l) (some h))
  | .call _ m es, ρ => bnd (evs es ρ) fun xs => lft (m xs)
  | .callS _ m es, ρ => bnd (evs es ρ) fun xs => m xs
  | .blt f es, ρ => bnd (evs es ρ) fun xs => lft (bltD f xs)
  | .isa t a, ρ => bnd (ev a ρ) fun x => ret (.bool (isaD t x))
  | .subG _ kvs i, ρ => bnd (ev i ρ) fun y => lft (subGD kvs y)
  | .op1 f a, ρ => bnd (ev a ρ) fun x => lft (op1D f x)
  | .op2 f a b, ρ => bnd (ev a ρ) fun x => if ok2 f x = true then bnd (ev b ρ) fun y => lft (op2D f x y) else lft .bad
  | .op3 f a b c, ρ => bnd (ev a ρ) fun x => if ok3 f x = true then bnd (ev b ρ) fun y => bnd (ev c ρ) fun z => lft (op3D f x y z) else lft .bad
  | .lc elt tg it c own, ρ => bnd (evIt it ρ) fun xs => bnd (lcGo (fun x => nx (bnd (lft (asg tg x (wipeE ρ (own.map (·.2))))) fun ρ' => bnd (ev c ρ') fun t => if truthy t = true then bnd (ev elt ρ') fun y => ret (some y) else ret none)) xs) fun ys => ret (.list ys)
  | .pick fs i es, ρ => bnd (ev i ρ) fun x => match pickD fs x with
    | some p => bnd (evs es ρ) fun xs => lft (p.2 xs)
    | none => lft .bad
  | .disp tu ss es, ρ => bnd (evd ss es ρ) fun xs => if xs.length ≤ sizeLine then ret (if tu = true then .tuple xs else .list xs) else lft .bad
  | .dc ke ve tg it c own, ρ => bnd (evIt it ρ) fun xs => bnd (dcGo (fun x => nx (bnd (lft (asg tg x (wipeE ρ (own.map (·.2))))) fun ρ' => bnd (ev c ρ') fun t => if truthy t = true then bnd (ev ke ρ') fun k => bnd (ev ve ρ') fun y => ret (some (k, y)) else ret none)) xs []) fun kvs => ret (.dict kvs)
  | .repr a, ρ => bnd (ev a ρ) fun x => lft (reprD x)
  | .dlit es, ρ => bnd (evs es ρ) fun xs => match pairUp xs with
    | some ps => if ps.length ≤ 15 then ret (.dict (mergeD [] ps)) else lft .bad
    | none => lft .bad
def evd {S : Type} : List Bool → Es S → Env → M S (List PyData)
  | _, .nil, _ => ret []
  | ss, .cons a r, ρ => bnd (ev a ρ) fun x => bnd (lft (spreadR (ss.headD false) x)) fun ys => bnd (evd ss.tail r ρ) fun xs => ret (ys ++ xs)
def evs {S : Type} : Es S → Env → M S (List PyData)
  | .nil, _ => ret []
  | .cons a r, ρ => bnd (ev a ρ) fun x => bnd (evs r ρ) fun xs => ret (x :: xs)
def evIt {S : Type} : It S → Env → M S (List PyData)
  | .of a, ρ => bnd (ev a ρ) fun x => lft (itemsR x)
  | .range1 a, ρ => bnd (ev a ρ) fun x => lft ((intR x).bind fun n => if n ≤ sizeLine ∧ -(2 ^ 62) ≤ n then .ok (rangeD 0 n.toNat) else .bad)
  | .range2 a b, ρ => bnd (ev a ρ) fun x => bnd (ev b ρ) fun y => lft ((intR x).bind fun lo => (intR y).bind fun hi =>
      if -(2 ^ 62) ≤ lo ∧ lo < 2 ^ 62 ∧ -(2 ^ 62) ≤ hi ∧ hi < 2 ^ 62 ∧ (hi - lo).toNat ≤ sizeLine then .ok (rangeD lo (hi - lo).toNat) else .bad)
  | .zip a b, ρ => bnd (ev a ρ) fun x => bnd (ev b ρ) fun y => lft (zipD x y)
  | .enum a, ρ => bnd (ev a ρ) fun x => lft (enumD x)
  | .sign a, ρ => bnd (ev a ρ) fun x => lft (signD x)
  | .range3 a b c, ρ => bnd (ev a ρ) fun x => bnd (ev b ρ) fun y => bnd (ev c ρ) fun z => lft ((intR x).bind fun i => (intR y).bind fun j => (intR z).bind fun k => range3D i j k)
  | .rev a, ρ => bnd (ev a ρ) fun x => lft ((itemsR x).bind fun xs => .ok xs.reverse)
  | .enumZip a b, ρ => bnd (ev a ρ) fun x => bnd (ev b ρ) fun y => lft (enumZipD x y)
  | .zip3 a b c, ρ => bnd (ev a ρ) fun x => bnd (ev b ρ) fun y => bnd (ev c ρ) fun z => lft (zip3D x y z)
end

/-! ### statements -/
mutual
inductive St (S : Type) : Type where
  | set (i : Nat) (own im : Bool) (e : E S)
  | asg (is : List Nat) (im : Bool) (e : E S)
  | par (is : List Nat) (ks : List Bool) (im : Bool) (es : Es S)
  | app (i : Nat) (im : Bool) (e : E S)
  | asgM (ts : List TgI) (im : Bool) (e : E S)
  | setItem (i : Nat) (im : Bool) (ix e : E S)
  | aug (i : Nat) (op : Operator) (e : E S)
  | expr (e : E S)
  | ret (e : E S) | retN
  | ite (c : E S) (a b : Sts S)
  | for_ (li : List Nat) (tg : Tg) (it : It S) (body : Sts S)
  | while_ (li : List Nat) (n : Nat) (c : E S) (body : Sts S)
  | brk | cnt | pass
  | raise_ (x : Str)
inductive Sts (S : Type) : Type where
  | nil
  | cons (a : St S) (r : Sts S)
end
/-- how a statement ends -/
inductive Fl where
  | nx (ρ : Env) | ret (d : PyData) | brk (ρ : Env) | cnt (ρ : Env)
def imm : PyData → Bool
  | .list _ => false
  | .dict _ => false
  | .tuple ds => go ds
  | _ => true
where go : List PyData → Bool
  | [] => true
  | d :: ds => imm d && go ds
/-- .. what is within -/
def immI : PyData → Bool
  | .list ds => imm.go ds
  | .dict kvs => imm.go (kvs.map (·.2))
  | d => imm d
/-- may what is there be kept apart? -/
def immK (own : Bool) (d : PyData) : Bool := if own then immI d else imm d
def immKs : List Bool → List PyData → Bool
  | _, [] => true
  | [], d :: ds => imm d && immKs [] ds
  | k :: ks, d :: ds => immK k d && immKs ks ds
/-- the parts of a tuple for a target of targets -/
def mixR (ts : List TgI) : PyData → R (List PyData)
  | .tuple ds => match mixD ts ds with
    | some xs => .ok xs
    | none => .bad
  | _ => .bad
def setItemD : PyData → PyData → PyData → R PyData
  | .list xs, .int k, d => match L2.ixN xs.length k with
    | some j => .ok (.list (xs.set j d))
    | none => .bad
  | .dict kvs, k, d => if kindOk kvs k = true ∧ kvs.length < sizeLine then .ok (.dict (putD kvs k d)) else .bad
  | _, _, _ => .bad
def appD : PyData → PyData → R PyData
  | .list xs, d => if xs.length < sizeLine then .ok (.list (xs ++ [d])) else .bad
  | _, _ => .bad
def getL (ρ : Env) (i : Nat) : R (List PyData) := match ρ[i]? with
  | some (some (.list xs)) => .ok xs
  | _ => .bad
def augD : Operator → PyData → PyData → R PyData
  | .Add, .int i, .int j => .ok (.int (i + j))
  | .Add, .str a, .str b => if a.length + b.length ≤ sizeLine then .ok (.str (a ++ b)) else .bad
  | .Sub, .int i, .int j => .ok (.int (i - j))
  | .Mult, .int i, .int j => if small i || small j then .ok (.int (i * j)) else .bad
  | .FloorDiv, .int i, .int j => if 0 < j ∧ j.natAbs.log2 < 9000 then .ok (.int (i / j)) else .bad
  | .Mod, .int i, .int j => if 0 < j then .ok (.int (i % j)) else .bad
  | _, _, _ => .bad
def forGo {S : Type} (f : PyData → Env → M S Fl) : List PyData → Env → M S Fl
  | [], ρ => ret (.nx ρ)
  | x :: xs, ρ => bnd (f x ρ) fun fl => match fl with
    | .nx ρ' => forGo f xs ρ'
    | .cnt ρ' => forGo f xs ρ'
    | .brk ρ' => ret (.nx ρ')
    | .ret d => ret (.ret d)
def whileGo {S : Type} (c : Env → M S PyData) (f : Env → M S Fl) : Nat → Env → M S Fl
  | 0, _ => lft .bad
  | n + 1, ρ => bnd (c ρ) fun t => if truthy t = true then bnd (f ρ) fun fl => (match fl with
    | .nx ρ' => whileGo c f n ρ'
    | .cnt ρ' => whileGo c f n ρ'
    | .brk ρ' => ret (.nx ρ')
    | .ret d => ret (.ret d)) else ret (.nx ρ)
mutual
def run {S : Type} : St S → Env → M S Fl
  | .set i own im e, ρ => bnd (ev e ρ) fun d => if im = false ∨ immK own d = true then ret (.nx (ρ.set i (some d))) else lft .bad
  | .asg is im e, ρ => bnd (ev e ρ) fun d => if im = false ∨ imm d = true then bnd (lft (asg (.tup is) d ρ)) fun ρ' => ret (.nx ρ') else lft .bad
  | .asgM ts im e, ρ => bnd (ev e ρ) fun d => bnd (lft (mixR ts d)) fun ds => if ds.length = (flatI ts).length ∧ (im = false ∨ immKs [] ds = true) then ret (.nx (setAll (flatI ts) ds ρ)) else lft .bad
  | .par is ks im es, ρ => bnd (evs es ρ) fun ds => if ds.length = is.length ∧ (im = false ∨ immKs ks ds = true) then ret (.nx (setAll is ds ρ)) else lft .bad
  | .app i im e, ρ => bnd (lft (getL ρ i)) fun xs => bnd (ev e ρ) fun d => if (im = false ∨ imm d = true) ∧ xs.length < sizeLine then ret (.nx (ρ.set i (some (.list (xs ++ [d]))))) else lft .bad
  | .setItem i im ix e, ρ => bnd (ev e ρ) fun d => if im = false ∨ imm d = true then bnd (lft (getV ρ i)) fun x => bnd (ev ix ρ) fun k => bnd (lft (setItemD x k d)) fun y => ret (.nx (ρ.set i (some y))) else lft .bad
  | .aug i op e, ρ => bnd (lft (getV ρ i)) fun x => bnd (ev e ρ) fun d => bnd (lft (augD op x d)) fun y => ret (.nx (ρ.set i (some y)))
  | .expr e, ρ => bnd (ev e ρ) fun _ => ret (.nx ρ)
  | .ret e, ρ => bnd (ev e ρ) fun d => ret (.ret d)
  | .retN, _ => ret (.ret .none)
  | .ite c a b, ρ => bnd (ev c ρ) fun t => if truthy t = true then runs a ρ else runs b ρ
  | .for_ _ tg it body, ρ => bnd (evIt it ρ) fun xs => forGo (fun x ρ => bnd (lft (Mir.asg tg x ρ)) fun ρ' => runs body ρ') xs ρ
  | .while_ _ n c body, ρ => whileGo (fun ρ => ev c ρ) (fun ρ => runs body ρ) n ρ
  | .brk, ρ => ret (.brk ρ)
  | .cnt, ρ => ret (.cnt ρ)
  | .pass, ρ => ret (.nx ρ)
  | .raise_ x, _ => lft (.exc x [])
def runs {S : Type} : Sts S → Env → M S Fl
  | .nil, ρ => ret (.nx ρ)
  | .cons a r, ρ => bnd (run a ρ) fun fl => match fl with
    | .nx ρ' => runs r ρ'
    | .ret d => ret (.ret d)
    | .brk ρ' => ret (.brk ρ')
    | .cnt ρ' => ret (.cnt ρ')
end
/-- a def -/
def runDef {S : Type} (n : Nat) (body : Sts S) (args : List PyData) : M S PyData :=
  bnd (runs body (args.map some ++ List.replicate (n - args.length) none)) fun fl => match fl with
    | .ret d => ret d
    | .nx _ => ret .none
    | _ => lft .bad
end Mir

set_option Elab.async false
set_option linter.all false
set_option maxRecDepth 100000
set_option maxHeartbeats 4000000
/-! Mir, part B: how data stand in the abstract heap. -/
namespace Mir
open PySem PySem.Spec PyProof.Rows L2

def kD : Key → PyData
  | .inl i => .int i
  | .inr x => .str x
mutual
/-- v stands for d; none of its objects is in T -/
def Rep (T : Addr → Prop) (H : Hp) : PyData → V → Prop
  | .none, v => v = .non
  | .bool b, v => v = .bl b
  | .int i, v => v = .int i
  | .str x, v => v = .str x ∧ x.length ≤ sizeLine
  | .tuple ds, v => ∃ a xs, v = .ref a ∧ ¬ T a ∧ H a = some (.tup xs) ∧ xs.length ≤ sizeLine ∧ RepL T H ds xs
  | .list ds, v => ∃ a xs, v = .ref a ∧ ¬ T a ∧ H a = some (.lst xs) ∧ xs.length ≤ sizeLine ∧ RepL T H ds xs
  | .dict kvs, v => ∃ a, v = .ref a ∧ ¬ T a ∧ ((∃ ks, Rd H a (.dK ks) ∧ RepK T H kvs ks) ∨ ∃ ks, Rd H a (.dT ks) ∧ RepT T H kvs ks)
def RepL (T : Addr → Prop) (H : Hp) : List PyData → List V → Prop
  | [], xs => xs = []
  | d :: ds, xs => ∃ x r, xs = x :: r ∧ Rep T H d x ∧ RepL T H ds r
def RepK (T : Addr → Prop) (H : Hp) : List (PyData × PyData) → List (Key × V) → Prop
  | [], ks => ks = []
  | (k, d) :: r, ks => ∃ kk x t, ks = (kk, x) :: t ∧ k = kD kk ∧ Rep T H d x ∧ RepK T H r t
def RepT (T : Addr → Prop) (H : Hp) : List (PyData × PyData) → List (List Key × V) → Prop
  | [], ks => ks = []
  | (k, d) :: r, ks => ∃ kk x t, ks = (kk, x) :: t ∧ k = .tuple (kk.map kD) ∧ Rep T H d x ∧ RepT T H r t
end

/-- what is tracked in H outside T stands in H' -/
def Ext (T : Addr → Prop) (H H' : Hp) : Prop := ∀ a o, ¬ T a → H a = some o → H' a = some o
theorem Ext.refl {T : Addr → Prop} {H : Hp} : Ext T H H := fun _ _ _ h => h
theorem Ext.trans {T : Addr → Prop} {H H1 H2 : Hp} (a : Ext T H H1) (b : Ext T H1 H2) : Ext T H H2 := fun c o n h => b c o n (a c o n h)
theorem Ext.mono {T T' : Addr → Prop} {H H' : Hp} (e : Ext T H H') (h : ∀ a, T a → T' a) : Ext T' H H' := fun a o n q => e a o (fun t => n (h a t)) q
theorem Ext.laid {T : Addr → Prop} {H : Hp} {p : Addr} {o : HO} (h : H p = none) : Ext T H (upd H p o) := fun a q _ e => by rw [upd_ne (ne_of_none e h)]; exact e
theorem Ext.wr {T : Addr → Prop} {H : Hp} {p : Addr} {o : HO} (h : T p) : Ext T H (upd H p o) := fun a q n e => by rw [upd_ne (fun z => n (by rw [z]; exact h))]; exact e

section
variable {T T' : Addr → Prop} {H H' : Hp}
/-- the change of place: what the new T is at, and what of the heap is kept -/
structure Mv (T T' : Addr → Prop) (H H' : Hp) : Prop where
  t : ∀ a o, ¬ T a → H a = some o → ¬ T' a
  h : ∀ a o, ¬ T a → H a = some o → H' a = some o
theorem Mv.of_ext (e : Ext T H H') : Mv T T H H' := ⟨fun _ _ n _ => n, e⟩
theorem Mv.less (h : ∀ a, T' a → T a) : Mv T T' H H := ⟨fun a _ n _ t => n (h a t), fun _ _ _ e => e⟩
theorem Mv.rd (m : Mv T T' H H') {a : Addr} {u : HO} (n : ¬ T a) (r : Rd H a u) : Rd H' a u ∧ ¬ T' a := by
  rcases r with r | ⟨o, r⟩
  · exact ⟨.inl (m.h a _ n r), m.t a _ n r⟩
  · exact ⟨.inr ⟨o, m.h a _ n r⟩, m.t a _ n r⟩
mutual
theorem Rep.mv (m : Mv T T' H H') : ∀ (d : PyData) (v : V), Rep T H d v → Rep T' H' d v
  | .none, _, h => by simpa [Rep] using h
  | .bool b, _, h => by simpa [Rep] using h
  | .int i, _, h => by simpa [Rep] using h
  | .str x, _, h => by simpa [Rep] using h
  | .tuple ds, v, h => by
    obtain ⟨a, xs, e, n, q, z, r⟩ := by simpa only [Rep] using h
    simp only [Rep]
    exact ⟨a, xs, e, m.t a _ n q, m.h a _ n q, z, RepL.mv m ds xs r⟩
  | .list ds, v, h => by
    obtain ⟨a, xs, e, n, q, z, r⟩ := by simpa only [Rep] using h
    simp only [Rep]
    exact ⟨a, xs, e, m.t a _ n q, m.h a _ n q, z, RepL.mv m ds xs r⟩
  | .dict kvs, v, h => by
    obtain ⟨a, e, n, q⟩ := by simpa only [Rep] using h
    simp only [Rep]
    rcases q with ⟨ks, q, r⟩ | ⟨ks, q, r⟩
    · exact ⟨a, e, (m.rd n q).2, .inl ⟨ks, (m.rd n q).1, RepK.mv m kvs ks r⟩⟩
    · exact ⟨a, e, (m.rd n q).2, .inr ⟨ks, (m.rd n q).1, RepT.mv m kvs ks r⟩⟩
theorem RepL.mv (m : Mv T T' H H') : ∀ (ds : List PyData) (xs : List V), RepL T H ds xs → RepL T' H' ds xs
  | [], _, h => by simpa [RepL] using h
  | d :: ds, xs, h => by
    obtain ⟨x, r, e, h1, h2⟩ := by simpa only [RepL] using h
    simp only [RepL]
    exact ⟨x, r, e, Rep.mv m d x h1, RepL.mv m ds r h2⟩
theorem RepK.mv (m : Mv T T' H H') : ∀ (ds : List (PyData × PyData)) (xs : List (Key × V)), RepK T H ds xs → RepK T' H' ds xs
  | [], _, h => by simpa [RepK] using h
  | (k, d) :: ds, xs, h => by
    obtain ⟨kk, x, r, e, e2, h1, h2⟩ := by simpa only [RepK] using h
    simp only [RepK]
    exact ⟨kk, x, r, e, e2, Rep.mv m d x h1, RepK.mv m ds r h2⟩
theorem RepT.mv (m : Mv T T' H H') : ∀ (ds : List (PyData × PyData)) (xs : List (List Key × V)), RepT T H ds xs → RepT T' H' ds xs
  | [], _, h => by simpa [RepT] using h
  | (k, d) :: ds, xs, h => by
    obtain ⟨kk, x, r, e, e2, h1, h2⟩ := by simpa only [RepT] using h
    simp only [RepT]
    exact ⟨kk, x, r, e, e2, Rep.mv m d x h1, RepT.mv m ds r h2⟩
end
theorem Rep.ext {d : PyData} {v : V} (r : Rep T H d v) (e : Ext T H H') : Rep T H' d v := Rep.mv (.of_ext e) d v r
theorem RepL.ext {d : List PyData} {v : List V} (r : RepL T H d v) (e : Ext T H H') : RepL T H' d v := RepL.mv (.of_ext e) d v r
theorem Rep.less {d : PyData} {v : V} (r : Rep T H d v) (h : ∀ a, T' a → T a) : Rep T' H d v := Rep.mv (.less h) d v r
theorem RepL.less {d : List PyData} {v : List V} (r : RepL T H d v) (h : ∀ a, T' a → T a) : RepL T' H d v := RepL.mv (.less h) d v r

theorem RepL.length : ∀ {ds : List PyData} {xs : List V}, RepL T H ds xs → ds.length = xs.length
  | [], xs, h => by
    have e : xs = [] := by simpa [RepL] using h
    subst e; rfl
  | d :: ds, xs, h => by
    obtain ⟨x, r, e, h1, h2⟩ := by simpa only [RepL] using h
    subst e
    simp [RepL.length h2]
theorem RepL.cons {d : PyData} {ds : List PyData} {x : V} {xs : List V} (h1 : Rep T H d x) (h2 : RepL T H ds xs) : RepL T H (d :: ds) (x :: xs) := by
  simp only [RepL]; exact ⟨x, xs, rfl, h1, h2⟩
theorem RepL.nil : RepL T H [] [] := by simp [RepL]
theorem RepL.nil_inv {xs : List V} (h : RepL T H [] xs) : xs = [] := by simpa [RepL] using h
theorem RepL.cons_inv {d : PyData} {ds : List PyData} {xs : List V} (h : RepL T H (d :: ds) xs) : ∃ x r, xs = x :: r ∧ Rep T H d x ∧ RepL T H ds r := by simpa only [RepL] using h
theorem RepL.append : ∀ {ds es : List PyData} {xs ys : List V}, RepL T H ds xs → RepL T H es ys → RepL T H (ds ++ es) (xs ++ ys)
  | [], _, _, _, h, q => by rw [h.nil_inv]; exact q
  | d :: ds, es, xs, ys, h, q => by
    obtain ⟨x, r, e, h1, h2⟩ := h.cons_inv
    subst e
    exact .cons h1 (h2.append q)
theorem RepL.get : ∀ {ds : List PyData} {xs : List V} {i : Nat} {d : PyData}, RepL T H ds xs → ds[i]? = some d → ∃ x, xs[i]? = some x ∧ Rep T H d x
  | [], _, _, _, _, e => by simp at e
  | d :: ds, xs, 0, d', h, e => by
    obtain ⟨x, r, rfl, h1, h2⟩ := h.cons_inv
    simp at e; subst e
    exact ⟨x, rfl, h1⟩
  | d :: ds, xs, i + 1, d', h, e => by
    obtain ⟨x, r, rfl, h1, h2⟩ := h.cons_inv
    obtain ⟨y, e1, e2⟩ := RepL.get (i := i) h2 (by simpa using e)
    exact ⟨y, by simpa using e1, e2⟩
theorem RepL.drop : ∀ {ds : List PyData} {xs : List V} (n : Nat), RepL T H ds xs → RepL T H (ds.drop n) (xs.drop n)
  | _, _, 0, h => h
  | [], _, _ + 1, h => by rw [h.nil_inv]; exact .nil
  | d :: ds, xs, n + 1, h => by
    obtain ⟨x, r, rfl, h1, h2⟩ := h.cons_inv
    exact h2.drop n
theorem RepL.take : ∀ {ds : List PyData} {xs : List V} (n : Nat), RepL T H ds xs → RepL T H (ds.take n) (xs.take n)
  | _, _, 0, h => .nil
  | [], _, _ + 1, h => by rw [h.nil_inv]; exact .nil
  | d :: ds, xs, n + 1, h => by
    obtain ⟨x, r, rfl, h1, h2⟩ := h.cons_inv
    exact .cons h1 (h2.take n)
theorem RepL.set {d : PyData} {x : V} (q : Rep T H d x) : ∀ {ds : List PyData} {xs : List V} (n : Nat), RepL T H ds xs → RepL T H (ds.set n d) (xs.set n x)
  | [], _, _, h => by rw [h.nil_inv]; exact .nil
  | e :: ds, xs, 0, h => by
    obtain ⟨y, r, rfl, h1, h2⟩ := h.cons_inv
    exact .cons q h2
  | e :: ds, xs, n + 1, h => by
    obtain ⟨y, r, rfl, h1, h2⟩ := h.cons_inv
    exact .cons h1 (RepL.set q n h2)
theorem RepL.rep {ds : List PyData} {xs : List V} (h : RepL T H ds xs) : ∀ n : Nat, RepL T H (List.replicate n ds).flatten (List.replicate n xs).flatten
  | 0 => .nil
  | n + 1 => by
    rw [List.replicate_succ, List.replicate_succ, List.flatten_cons, List.flatten_cons]
    exact h.append (RepL.rep h n)
theorem RepL.atI {ds : List PyData} {xs : List V} {i : Int} {d : PyData} (h : RepL T H ds xs) (e : L2.atI ds i = some d) : ∃ x, L2.atI xs i = some x ∧ Rep T H d x := by
  unfold L2.atI at e ⊢
  rw [h.length] at e
  cases q : ixN xs.length i with
  | none => rw [q] at e; cases e
  | some j =>
    rw [q] at e
    exact h.get e
theorem RepL.cut {ds : List PyData} {xs : List V} (h : RepL T H ds xs) (lo hi : Option Int) : RepL T H (cutD ds lo hi) (cutV xs lo hi) := by
  unfold cutD cutV
  rw [h.length]
  exact (h.drop _).take _
/-- no object within: T does not matter -/
theorem Rep.nodup {d : PyData} {v : V} (h : Rep T H d v) : True := trivial

theorem Rep.mkInt {i : Int} : Rep T H (.int i) (.int i) := by simp [Rep]
theorem Rep.mkBool {b : Bool} : Rep T H (.bool b) (.bl b) := by simp [Rep]
theorem Rep.mkNone : Rep T H .none .non := by simp [Rep]
theorem Rep.mkStr {x : Str} (h : x.length ≤ sizeLine) : Rep T H (.str x) (.str x) := by simp [Rep, h]
theorem Rep.int_inv {i : Int} {v : V} (h : Rep T H (.int i) v) : v = .int i := by simpa [Rep] using h
theorem Rep.bool_inv {i : Bool} {v : V} (h : Rep T H (.bool i) v) : v = .bl i := by simpa [Rep] using h
theorem Rep.none_inv {v : V} (h : Rep T H .none v) : v = .non := by simpa [Rep] using h
theorem Rep.str_inv {x : Str} {v : V} (h : Rep T H (.str x) v) : v = .str x ∧ x.length ≤ sizeLine := by simpa [Rep] using h
theorem Rep.list_inv {ds : List PyData} {v : V} (h : Rep T H (.list ds) v) : ∃ a xs, v = .ref a ∧ ¬ T a ∧ H a = some (.lst xs) ∧ xs.length ≤ sizeLine ∧ RepL T H ds xs := by simpa only [Rep] using h
theorem Rep.tuple_inv {ds : List PyData} {v : V} (h : Rep T H (.tuple ds) v) : ∃ a xs, v = .ref a ∧ ¬ T a ∧ H a = some (.tup xs) ∧ xs.length ≤ sizeLine ∧ RepL T H ds xs := by simpa only [Rep] using h
theorem Rep.mkList {ds : List PyData} {a : Addr} {xs : List V} (n : ¬ T a) (h : H a = some (.lst xs)) (z : xs.length ≤ sizeLine) (r : RepL T H ds xs) : Rep T H (.list ds) (.ref a) := by
  simp only [Rep]; exact ⟨a, xs, rfl, n, h, z, r⟩
theorem Rep.mkTuple {ds : List PyData} {a : Addr} {xs : List V} (n : ¬ T a) (h : H a = some (.tup xs)) (z : xs.length ≤ sizeLine) (r : RepL T H ds xs) : Rep T H (.tuple ds) (.ref a) := by
  simp only [Rep]; exact ⟨a, xs, rfl, n, h, z, r⟩
end

/-! ### immutable data: no T matters -/
section
variable {T T' : Addr → Prop} {H : Hp}
/-- T' has no tuple -/
def NoTup (T' : Addr → Prop) (H : Hp) : Prop := ∀ a xs, H a = some (.tup xs) → ¬ T' a
mutual
theorem Rep.imm (n : NoTup T' H) : ∀ (d : PyData) (v : V), imm d = true → Rep T H d v → Rep T' H d v
  | .none, _, _, h => by simpa [Rep] using h
  | .bool b, _, _, h => by simpa [Rep] using h
  | .int i, _, _, h => by simpa [Rep] using h
  | .str x, _, _, h => by simpa [Rep] using h
  | .tuple ds, v, i, h => by
    obtain ⟨a, xs, e, _, q, z, r⟩ := by simpa only [Rep] using h
    simp only [Rep]
    exact ⟨a, xs, e, n a _ q, q, z, RepL.imm n ds xs (by simpa [Mir.imm] using i) r⟩
  | .list ds, v, i, h => by simp [Mir.imm] at i
  | .dict kvs, v, i, h => by simp [Mir.imm] at i
theorem RepL.imm (n : NoTup T' H) : ∀ (ds : List PyData) (xs : List V), Mir.imm.go ds = true → RepL T H ds xs → RepL T' H ds xs
  | [], _, _, h => by simpa [RepL] using h
  | d :: ds, xs, i, h => by
    obtain ⟨x, r, e, h1, h2⟩ := by simpa only [RepL] using h
    rw [Mir.imm.go, Bool.and_eq_true] at i
    simp only [RepL]
    exact ⟨x, r, e, Rep.imm n d x i.1 h1, RepL.imm n ds r i.2 h2⟩
end
end

/-! ### reading in the model's heap -/
section
variable {X : Cx} {pins : List (Addr × Obj)} {σ : L2.St} {H : Hp} {s : Shared} {T : Addr → Prop}
mutual
theorem Rep.reads (I : Inv X pins σ H s) : ∀ (d : PyData) (v : V) (u : Value), d.plain = true → Rep T H d v → RelV v u → ∃ as, Reads s.heap u d as
  | .none, _, u, _, h, r => by rw [h.none_inv] at r; cases r; exact ⟨_, .none⟩
  | .bool b, _, u, _, h, r => by rw [h.bool_inv] at r; cases r; exact ⟨_, .bool b⟩
  | .int i, _, u, _, h, r => by rw [h.int_inv] at r; obtain ⟨t, rfl⟩ := r; exact ⟨_, .int i t⟩
  | .str x, _, u, _, h, r => by rw [h.str_inv.1] at r; obtain ⟨t, rfl⟩ := r; exact ⟨_, .str x t⟩
  | .tuple ds, v, u, p, h, r => by
    obtain ⟨a, xs, e, _, q, z, hr⟩ := h.tuple_inv
    subst e
    cases r
    obtain ⟨its, rv, ⟨o, ho, hc, n, hd⟩, _⟩ := I.tuple (.of q)
    obtain ⟨as, q⟩ := RepL.reads I ds xs its (by simpa [PyData.plain] using p) hr rv
    exact ⟨_, .tuple ho hc hd (by simpa using q)⟩
  | .list ds, v, u, p, h, r => by
    obtain ⟨a, xs, e, _, q, z, hr⟩ := h.list_inv
    subst e
    cases r
    obtain ⟨its, rv, ⟨o, n, ho, hc, _, hd⟩, _⟩ := I.list (.of q)
    obtain ⟨as, q⟩ := RepL.reads I ds xs its (by simpa [PyData.plain] using p) hr rv
    exact ⟨_, .list ho hc hd (by simpa using q)⟩
  | .dict kvs, v, u, p, h, r => by simp [PyData.plain] at p
theorem RepL.reads (I : Inv X pins σ H s) : ∀ (ds : List PyData) (xs : List V) (us : List Value), PyData.plainAll ds = true → RepL T H ds xs → Vals xs us → ∃ as, ReadsAll s.heap us ds as
  | [], _, us, _, h, r => by rw [h.nil_inv] at r; cases r; exact ⟨_, .nil⟩
  | d :: ds, xs, us, p, h, r => by
    obtain ⟨x, t, rfl, h1, h2⟩ := h.cons_inv
    cases r with
    | cons r1 r2 =>
      simp only [PyData.plainAll, Bool.and_eq_true] at p
      obtain ⟨as, q1⟩ := Rep.reads I d _ _ p.1 h1 r1
      obtain ⟨bs, q2⟩ := RepL.reads I ds _ _ p.2 h2 r2
      exact ⟨_, .cons q1 q2⟩
end
end
end Mir

set_option Elab.async false
set_option linter.all false
set_option maxRecDepth 100000
set_option maxHeartbeats 4000000
/-! Mir, part C: what it is for an expression of the language to be one of the model's. -/
namespace Mir
open PySem PySem.Spec PyProof.Rows L2

/-- a state beside the data: where it stands -/
structure SK (S : Type) where
  rel : S → Hp → Prop
  loc : Addr → Prop
  slot : Option (Nat × Addr)
  keep : ∀ s H H', rel s H → (∀ a, loc a → H' a = H a) → rel s H'
  there : ∀ s H a, rel s H → loc a → ∃ xs, H a = some (.lst xs)

def wE (X : Cx) (e : Expr) : TE := fun σ H Q => ∀ (pins : List (Addr × Obj)) (s : Shared), Inv X pins σ H s → wpAny (model X.prog X.w) X.A (eval e X.env) (EP X pins σ Q) X.xe s
def wT (X : Cx) (e : Expr) : TT := fun σ H Q => ∀ (pins : List (Addr × Obj)) (s : Shared), Inv X pins σ H s → wpAny (model X.prog X.w) X.A (isTrue e X.env (eval e X.env)) (TP X pins σ Q) X.xe s
def wW (X : Cx) (e : Expr) : TT := fun σ H Q => ∀ (whole : Sem Value) (pins : List (Addr × Obj)) (s : Shared), Inv X pins σ H s → wpAny (model X.prog X.w) X.A (isTrue e X.env whole) (TP X pins σ Q) X.xe s
def wA (X : Cx) (es : List Expr) : TA := fun σ H Q => ∀ (pos : Pos) (pins : List (Addr × Obj)) (s : Shared), Inv X pins σ H s → wpAny (model X.prog X.w) X.A (spliced (backTo pos (starEach es X.env))) (AP X pins σ Q) X.xe s
section
variable {X : Cx} {e : Expr} {es : List Expr} {σ : L2.St} {H : Hp}
theorem pe_w : PE X e (wE X e) := ⟨fun pins s _ _ _ I h => h pins s I⟩
theorem pt_w : PT X e (wT X e) := ⟨fun pins s _ _ _ I h => h pins s I⟩
theorem pw_w : PW X e (wW X e) := ⟨fun wh pins s _ _ _ I h => h wh pins s I⟩
theorem pa_w : PA X es (wA X es) := ⟨fun pos pins s _ _ _ I h => h pos pins s I⟩
theorem _root_.L2.PE.w {t : TE} {Q : VK} (h : PE X e t) (q : t σ H Q) : wE X e σ H Q := fun pins s I => h.run pins s σ H Q I q
theorem _root_.L2.PT.w {t : TT} {Q : Bool → Hp → Prop} (h : PT X e t) (q : t σ H Q) : wT X e σ H Q := fun pins s I => h.run pins s σ H Q I q
theorem _root_.L2.PW.w {t : TT} {Q : Bool → Hp → Prop} (h : PW X e t) (q : t σ H Q) : wW X e σ H Q := fun wh pins s I => h.run wh pins s σ H Q I q
theorem _root_.L2.PA.w {t : TA} {Q : List V → Hp → Prop} (h : PA X es t) (q : t σ H Q) : wA X es σ H Q := fun pos pins s I => h.run pos pins s σ H Q I q
theorem wE.mono {Q Q' : VK} (h : wE X e σ H Q) (q : ∀ v H', Q v H' → Q' v H') : wE X e σ H Q' := fun pins s I => thn (h pins s I) fun _ _ ⟨v, H', I', r, z⟩ => ⟨v, H', I', r, q v H' z⟩
theorem wT.mono {Q Q' : Bool → Hp → Prop} (h : wT X e σ H Q) (q : ∀ v H', Q v H' → Q' v H') : wT X e σ H Q' := fun pins s I => thn (h pins s I) fun _ _ ⟨H', I', z⟩ => ⟨H', I', q _ H' z⟩
theorem wA.mono {Q Q' : List V → Hp → Prop} (h : wA X es σ H Q) (q : ∀ v H', Q v H' → Q' v H') : wA X es σ H Q' := fun pos pins s I => thn (h pos pins s I) fun _ _ ⟨v, H', I', r, z⟩ => ⟨v, H', I', r, q v H' z⟩
/-- at a state one may look at it -/
theorem wE.at {Q : VK} (h : ∀ pins s, Inv X pins σ H s → wE X e σ H Q) : wE X e σ H Q := fun pins s I => h pins s I pins s I
end

/-- at a stands d, whose items are met outside T alone -/
def Own1 (T : Addr → Prop) (H : Hp) : PyData → Addr → Prop
  | .list ds, a => ∃ xs, H a = some (.lst xs) ∧ xs.length ≤ sizeLine ∧ RepL T H ds xs
  | .dict kvs, a => (∃ ks, H a = some (.dK ks) ∧ RepK T H kvs ks) ∨ ∃ ks, H a = some (.dT ks) ∧ RepT T H kvs ks
  | _, _ => False
theorem Own1.mv {T T' : Addr → Prop} {H H' : Hp} (m : Mv T T' H H') : ∀ {d : PyData} {a : Addr}, Own1 T H d a → (∀ o, H a = some o → H' a = some o) → Own1 T' H' d a
  | .list ds, a, ⟨xs, h, z, r⟩, k => ⟨xs, k _ h, z, RepL.mv m _ _ r⟩
  | .dict kvs, a, .inl ⟨ks, h, r⟩, k => .inl ⟨ks, k _ h, RepK.mv m _ _ r⟩
  | .dict kvs, a, .inr ⟨ks, h, r⟩, k => .inr ⟨ks, k _ h, RepT.mv m _ _ r⟩
theorem Own1.rep {T T' : Addr → Prop} {H : Hp} (h : ∀ a, T' a → T a) : ∀ {d : PyData} {a : Addr}, Own1 T H d a → ¬ T' a → Rep T' H d (.ref a)
  | .list ds, a, ⟨xs, e, z, r⟩, n => .mkList n e z (r.less h)
  | .dict kvs, a, o, n => by
    simp only [Rep]
    rcases o with ⟨ks, e, r⟩ | ⟨ks, e, r⟩
    · exact ⟨a, rfl, n, .inl ⟨ks, .inl e, RepK.mv (.less h) _ _ r⟩⟩
    · exact ⟨a, rfl, n, .inr ⟨ks, .inl e, RepT.mv (.less h) _ _ r⟩⟩
theorem Own1.there {T : Addr → Prop} {H : Hp} : ∀ {d : PyData} {a : Addr}, Own1 T H d a → ∃ o, H a = some o ∧ Mut (some o)
  | .list ds, a, ⟨xs, e, z, r⟩ => ⟨_, e, trivial⟩
  | .dict kvs, a, .inl ⟨ks, e, r⟩ => ⟨_, e, trivial⟩
  | .dict kvs, a, .inr ⟨ks, e, r⟩ => ⟨_, e, trivial⟩
/-- an exception that lies: its class is the name's -/
def XcIs (mg : Str → Option Value) (x : Str) (l : List PyData) (cls : Value) (dx : Option Addr) (H : Hp) : Prop := mg x = some cls ∧ l = [] ∧ dx = none

section
variable {S : Type}
def PostE (X : Cx) (k : SK S) (T : Addr → Prop) (σ : L2.St) (H : Hp) (r : R (PyData × S)) (Q : VK) (W : WX) : Prop := match r with
  | .ok (d, st) => ∀ v H', Rep T H' d v → Ext k.loc H H' → k.rel st H' → Q v H'
  | .exc x l => ∀ cls dx H', XcIs X.mg x l cls dx H' → Ext k.loc H H' → W cls dx σ H'
  | .bad => False
def PostA (X : Cx) (k : SK S) (T : Addr → Prop) (σ : L2.St) (H : Hp) (r : R (List PyData × S)) (Q : List V → Hp → Prop) (W : WX) : Prop := match r with
  | .ok (d, st) => ∀ v H', RepL T H' d v → Ext k.loc H H' → k.rel st H' → Q v H'
  | .exc x l => ∀ cls dx H', XcIs X.mg x l cls dx H' → Ext k.loc H H' → W cls dx σ H'
  | .bad => False
def PostF (X : Cx) (k : SK S) (T : Addr → Prop) (σ : L2.St) (H : Hp) (r : R (PyData × S)) (Q : VK) (W : WX) : Prop := match r with
  | .ok (d, st) => ∀ a H', H a = none → ¬ T a → Own1 (fun b => T b ∨ b = a) H' d a → Ext k.loc H H' → k.rel st H' → Q (.ref a) H'
  | .exc x l => ∀ cls dx H', XcIs X.mg x l cls dx H' → Ext k.loc H H' → W cls dx σ H'
  | .bad => False
theorem PostE.f {X : Cx} {k : SK S} {T : Addr → Prop} {σ : L2.St} {H : Hp} {r : R (PyData × S)} {Q : VK} {W : WX} (h : PostE X k T σ H r Q W) : PostF X k T σ H r Q W := by
  unfold PostE at h
  unfold PostF
  match r, h with
  | .ok (d, st), h => exact fun a H' ha hT q e rel => h _ H' (q.rep (fun b => .inl) hT) e rel
  | .exc x l, h => exact h
  | .bad, h => exact h
theorem PostE.from {X : Cx} {k : SK S} {T : Addr → Prop} {σ : L2.St} {H H1 : Hp} {r : R (PyData × S)} {Q : VK} {W : WX} (e : Ext k.loc H H1) (h : PostE X k T σ H r Q W) : PostE X k T σ H1 r Q W := by
  unfold PostE at h ⊢
  match r, h with
  | .ok (d, st), h => exact fun v H' a b c => h v H' a (e.trans b) c
  | .exc x l, h => exact fun v dx H' a b => h v dx H' a (e.trans b)
  | .bad, h => exact h
theorem PostA.from {X : Cx} {k : SK S} {T : Addr → Prop} {σ : L2.St} {H H1 : Hp} {r : R (List PyData × S)} {Q : List V → Hp → Prop} {W : WX} (e : Ext k.loc H H1) (h : PostA X k T σ H r Q W) : PostA X k T σ H1 r Q W := by
  unfold PostA at h ⊢
  match r, h with
  | .ok (d, st), h => exact fun v H' a b c => h v H' a (e.trans b) c
  | .exc x l, h => exact fun v dx H' a b => h v dx H' a (e.trans b)
  | .bad, h => exact h

/-- the slots at L -/
structure EnvR (X : Cx) (k : SK S) (T : Addr → Prop) (L : List Nat) (ρ : Env) (σ : L2.St) (H : Hp) : Prop where
  v : ∀ i ∈ L, ∀ d, ρ[i]? = some (some d) → ∃ v, σ[i]? = some (some v) ∧ Rep T H d v
  ds : ∀ p, k.slot = some p → σ[p.1]? = some (some (.ref p.2))
  len : ρ.length ≤ σ.length
structure Ok (X : Cx) (k : SK S) (T : Addr → Prop) (st : S) (H : Hp) : Prop where
  dom : ∀ a, T a → ∃ o, H a = some o ∧ Mut (some o)
  loc : ∀ a, k.loc a → T a
  rel : k.rel st H
theorem Ok.none {X : Cx} {k : SK S} {T : Addr → Prop} {st : S} {H : Hp} (o : Ok X k T st H) {p : Addr} (h : H p = .none) : ¬ T p := fun t => by
  obtain ⟨u, e, _⟩ := o.dom p t
  rw [h] at e; cases e
theorem Ok.notup {X : Cx} {k : SK S} {T : Addr → Prop} {st : S} {H : Hp} (o : Ok X k T st H) : NoTup T H := fun a xs e t => by
  obtain ⟨u, e', m⟩ := o.dom a t
  rw [e] at e'; cases e'; exact m
theorem Ok.next {X : Cx} {k : SK S} {T : Addr → Prop} {st st' : S} {H H' : Hp} (o : Ok X k T st H) (e : Ext k.loc H H') (r : k.rel st' H') : Ok X k T st' H' := by
  refine ⟨fun a t => ?_, o.loc, r⟩
  by_cases h : k.loc a
  · obtain ⟨xs, q⟩ := k.there _ _ a r h
    exact ⟨_, q, trivial⟩
  · obtain ⟨u, q, m⟩ := o.dom a t
    exact ⟨u, e a u h q, m⟩
theorem Ok.extT {X : Cx} {k : SK S} {T : Addr → Prop} {st : S} {H H' : Hp} (o : Ok X k T st H) (e : Ext k.loc H H') : Ext T H H' := e.mono o.loc
theorem EnvR.next {X : Cx} {k : SK S} {T : Addr → Prop} {L : List Nat} {ρ : Env} {σ : L2.St} {H H' : Hp} (n : EnvR X k T L ρ σ H) (e : Ext T H H') : EnvR X k T L ρ σ H' :=
  ⟨fun i hi d h => let ⟨v, a, b⟩ := n.v i hi d h; ⟨v, a, b.ext e⟩, n.ds, n.len⟩
theorem EnvR.sub {X : Cx} {k : SK S} {T : Addr → Prop} {L L' : List Nat} {ρ : Env} {σ : L2.St} {H : Hp} (n : EnvR X k T L ρ σ H) (h : ∀ i ∈ L', i ∈ L) : EnvR X k T L' ρ σ H :=
  ⟨fun i hi => n.v i (h i hi), n.ds, n.len⟩

mutual
def fv {S : Type} : E S → List Nat
  | .v i => [i]
  | .bin _ a b => fv a ++ fv b
  | .neg a => fv a
  | .not_ a => fv a
  | .and_ a b => fv a ++ fv b
  | .or_ a b => fv a ++ fv b
  | .one a => fv a
  | .cmp _ a b => fv a ++ fv b
  | .chain _ _ a b c => fv a ++ (fv b ++ fv c)
  | .ite c a b => fv c ++ (fv a ++ fv b)
  | .tup es => fvs es
  | .lst es => fvs es
  | .sub a i => fv a ++ fv i
  | .sl a lo hi => fv a ++ (fv lo ++ fv hi)
  | .slL a lo => fv a ++ fv lo
  | .slH a hi => fv a ++ fv hi
  | .call _ _ es => fvs es
  | .callS _ _ es => fvs es
  | .blt _ es => fvs es
  | .isa _ a => fv a
  | .op1 _ a => fv a
  | .subG _ _ i => fv i
  | .op2 _ a b => fv a ++ fv b
  | .op3 _ a b c => fv a ++ (fv b ++ fv c)
  | .lc elt _ it c _ => fvI it ++ (fv elt ++ fv c)
  | .pick _ i es => fv i ++ fvs es
  | .disp _ _ es => fvs es
  | .repr a => fv a
  | .dlit es => fvs es
  | .dc ke ve _ it c _ => fvI it ++ (fv ke ++ (fv ve ++ fv c))
  | .int _ => [] | .bl _ => [] | .non => [] | .str _ => [] | .glob _ _ => [] | .dict0 => []
def fvs {S : Type} : Es S → List Nat
  | .nil => []
  | .cons a r => fv a ++ fvs r
def fvI {S : Type} : It S → List Nat
  | .of a => fv a
  | .range1 a => fv a
  | .range2 a b => fv a ++ fv b
  | .zip a b => fv a ++ fv b
  | .enum a => fv a
  | .sign a => fv a
  | .range3 a b c => fv a ++ (fv b ++ fv c)
  | .rev a => fv a
  | .enumZip a b => fv a ++ fv b
  | .zip3 a b c => fv a ++ (fv b ++ fv c)
end

/-- c is e -/
def SE (X : Cx) (k : SK S) (c : E S) (e : Expr) : Prop := ∀ (T : Addr → Prop) (ρ : Env) (st : S) (σ : L2.St) (H : Hp) (Q : VK) (W : WX),
  EnvR X k T (fv c) ρ σ H → Ok X k T st H → Takes X W → PostE X k T σ H (ev c ρ st) Q W → wE X e σ H Q
/-- .. as a test -/
def PostT (X : Cx) (k : SK S) (T : Addr → Prop) (σ : L2.St) (H : Hp) (r : R (PyData × S)) (Q : Bool → Hp → Prop) (W : WX) : Prop := match r with
  | .ok (d, st) => ∀ H', Ext k.loc H H' → k.rel st H' → Q (truthy d) H'
  | .exc x l => ∀ cls dx H', XcIs X.mg x l cls dx H' → Ext k.loc H H' → W cls dx σ H'
  | .bad => False
def ST (X : Cx) (k : SK S) (c : E S) (e : Expr) : Prop := ∀ (T : Addr → Prop) (ρ : Env) (st : S) (σ : L2.St) (H : Hp) (Q : Bool → Hp → Prop) (W : WX),
  EnvR X k T (fv c) ρ σ H → Ok X k T st H → Takes X W → PostT X k T σ H (ev c ρ st) Q W → wT X e σ H Q
def SW (X : Cx) (k : SK S) (c : E S) (e : Expr) : Prop := ∀ (T : Addr → Prop) (ρ : Env) (st : S) (σ : L2.St) (H : Hp) (Q : Bool → Hp → Prop) (W : WX),
  EnvR X k T (fv c) ρ σ H → Ok X k T st H → Takes X W → PostT X k T σ H (ev c ρ st) Q W → wW X e σ H Q
def SA (X : Cx) (k : SK S) (c : Es S) (es : List Expr) : Prop := ∀ (T : Addr → Prop) (ρ : Env) (st : S) (σ : L2.St) (H : Hp) (Q : List V → Hp → Prop) (W : WX),
  EnvR X k T (fvs c) ρ σ H → Ok X k T st H → Takes X W → PostA X k T σ H (evs c ρ st) Q W → wA X es σ H Q
theorem SW.t {X : Cx} {k : SK S} {c : E S} {e : Expr} (h : SW X k c e) : ST X k c e := fun T ρ st σ H Q W n o t p pins s I => h T ρ st σ H Q W n o t p _ pins s I

theorem PostT.from {X : Cx} {k : SK S} {T : Addr → Prop} {σ : L2.St} {H H1 : Hp} {r : R (PyData × S)} {Q : Bool → Hp → Prop} {W : WX} (e : Ext k.loc H H1) (h : PostT X k T σ H r Q W) : PostT X k T σ H1 r Q W := by
  unfold PostT at h ⊢
  match r, h with
  | .ok (d, st), h => exact fun H' b c => h H' (e.trans b) c
  | .exc x l, h => exact fun v dx H' a b => h v dx H' a (e.trans b)
  | .bad, h => exact h

/-! ### one part, then the rest -/
section
variable {X : Cx} {k : SK S} {T : Addr → Prop} {σ : L2.St} {H : Hp} {ρ : Env} {st : S} {W : WX} {c : E S} {e : Expr} {es : List Expr} {cs : Es S}
theorem SE.then (h : SE X k c e) {g : PyData → M S PyData} {Q Q' : VK} (n : EnvR X k T (fv c) ρ σ H) (o : Ok X k T st H) (t : Takes X W) (p : PostE X k T σ H (bnd (ev c ρ) g st) Q' W)
    (q : ∀ d st' v H', Rep T H' d v → Ext k.loc H H' → Ok X k T st' H' → PostE X k T σ H' (g d st') Q' W → Q v H') : wE X e σ H Q := by
  refine h T ρ st σ H Q W n o t ?_
  unfold bnd R.bind at p
  unfold PostE
  cases hr : ev c ρ st with
  | ok a =>
    obtain ⟨d, st'⟩ := a
    rw [hr] at p
    exact fun v H' r e k' => q d st' v H' r e (o.next e k') (PostE.from e p)
  | exc x l => rw [hr] at p; exact p
  | bad => rw [hr] at p; exact p
theorem SE.thenA (h : SE X k c e) {g : PyData → M S (List PyData)} {Q : VK} {Q' : List V → Hp → Prop} (n : EnvR X k T (fv c) ρ σ H) (o : Ok X k T st H) (t : Takes X W) (p : PostA X k T σ H (bnd (ev c ρ) g st) Q' W)
    (q : ∀ d st' v H', Rep T H' d v → Ext k.loc H H' → Ok X k T st' H' → PostA X k T σ H' (g d st') Q' W → Q v H') : wE X e σ H Q := by
  refine h T ρ st σ H Q W n o t ?_
  unfold bnd R.bind at p
  unfold PostE
  cases hr : ev c ρ st with
  | ok a =>
    obtain ⟨d, st'⟩ := a
    rw [hr] at p
    exact fun v H' r e k' => q d st' v H' r e (o.next e k') (PostA.from e p)
  | exc x l => rw [hr] at p; exact p
  | bad => rw [hr] at p; exact p
theorem SE.thenT (h : SE X k c e) {g : PyData → M S PyData} {Q : VK} {Q' : Bool → Hp → Prop} (n : EnvR X k T (fv c) ρ σ H) (o : Ok X k T st H) (t : Takes X W) (p : PostT X k T σ H (bnd (ev c ρ) g st) Q' W)
    (q : ∀ d st' v H', Rep T H' d v → Ext k.loc H H' → Ok X k T st' H' → PostT X k T σ H' (g d st') Q' W → Q v H') : wE X e σ H Q := by
  refine h T ρ st σ H Q W n o t ?_
  unfold bnd R.bind at p
  unfold PostE
  cases hr : ev c ρ st with
  | ok a =>
    obtain ⟨d, st'⟩ := a
    rw [hr] at p
    exact fun v H' r e k' => q d st' v H' r e (o.next e k') (PostT.from e p)
  | exc x l => rw [hr] at p; exact p
  | bad => rw [hr] at p; exact p
theorem SA.then (h : SA X k cs es) {g : List PyData → M S PyData} {Q : List V → Hp → Prop} {Q' : VK} (n : EnvR X k T (fvs cs) ρ σ H) (o : Ok X k T st H) (t : Takes X W) (p : PostE X k T σ H (bnd (evs cs ρ) g st) Q' W)
    (q : ∀ d st' v H', RepL T H' d v → Ext k.loc H H' → Ok X k T st' H' → PostE X k T σ H' (g d st') Q' W → Q v H') : wA X es σ H Q := by
  refine h T ρ st σ H Q W n o t ?_
  unfold bnd R.bind at p
  unfold PostA
  cases hr : evs cs ρ st with
  | ok a =>
    obtain ⟨d, st'⟩ := a
    rw [hr] at p
    exact fun v H' r e k' => q d st' v H' r e (o.next e k') (PostE.from e p)
  | exc x l => rw [hr] at p; exact p
  | bad => rw [hr] at p; exact p
theorem SA.thenA (h : SA X k cs es) {g : List PyData → M S (List PyData)} {Q : List V → Hp → Prop} {Q' : List V → Hp → Prop} (n : EnvR X k T (fvs cs) ρ σ H) (o : Ok X k T st H) (t : Takes X W) (p : PostA X k T σ H (bnd (evs cs ρ) g st) Q' W)
    (q : ∀ d st' v H', RepL T H' d v → Ext k.loc H H' → Ok X k T st' H' → PostA X k T σ H' (g d st') Q' W → Q v H') : wA X es σ H Q := by
  refine h T ρ st σ H Q W n o t ?_
  unfold bnd R.bind at p
  unfold PostA
  cases hr : evs cs ρ st with
  | ok a =>
    obtain ⟨d, st'⟩ := a
    rw [hr] at p
    exact fun v H' r e k' => q d st' v H' r e (o.next e k') (PostA.from e p)
  | exc x l => rw [hr] at p; exact p
  | bad => rw [hr] at p; exact p
/-- a test, then the rest -/
theorem ST.then (h : ST X k c e) {g : PyData → M S PyData} {Q : Bool → Hp → Prop} {Q' : VK} (n : EnvR X k T (fv c) ρ σ H) (o : Ok X k T st H) (t : Takes X W) (p : PostE X k T σ H (bnd (ev c ρ) g st) Q' W)
    (q : ∀ d st' H', Ext k.loc H H' → Ok X k T st' H' → PostE X k T σ H' (g d st') Q' W → Q (truthy d) H') : wT X e σ H Q := by
  refine h T ρ st σ H Q W n o t ?_
  unfold bnd R.bind at p
  unfold PostT
  cases hr : ev c ρ st with
  | ok a =>
    obtain ⟨d, st'⟩ := a
    rw [hr] at p
    exact fun H' e k' => q d st' H' e (o.next e k') (PostE.from e p)
  | exc x l => rw [hr] at p; exact p
  | bad => rw [hr] at p; exact p
theorem ST.thenT (h : ST X k c e) {g : PyData → M S PyData} {Q : Bool → Hp → Prop} {Q' : Bool → Hp → Prop} (n : EnvR X k T (fv c) ρ σ H) (o : Ok X k T st H) (t : Takes X W) (p : PostT X k T σ H (bnd (ev c ρ) g st) Q' W)
    (q : ∀ d st' H', Ext k.loc H H' → Ok X k T st' H' → PostT X k T σ H' (g d st') Q' W → Q (truthy d) H') : wT X e σ H Q := by
  refine h T ρ st σ H Q W n o t ?_
  unfold bnd R.bind at p
  unfold PostT
  cases hr : ev c ρ st with
  | ok a =>
    obtain ⟨d, st'⟩ := a
    rw [hr] at p
    exact fun H' e k' => q d st' H' e (o.next e k') (PostT.from e p)
  | exc x l => rw [hr] at p; exact p
  | bad => rw [hr] at p; exact p
/-- the end: a value is there -/
theorem PostE.val {d : PyData} {v : V} {H' : Hp} {Q : VK} {r : R PyData} (p : PostE X k T σ H (lft r st) Q W) (e : r = .ok d) (x : Ext k.loc H H') (rel : k.rel st H') (h : Rep T H' d v) : Q v H' := by
  subst e
  exact p v H' h x rel
theorem PostE.nobad {r : R PyData} {Q : VK} (p : PostE X k T σ H (lft r st) Q W) (e : r = .bad) : False := by
  subst e
  exact p
end
end
end Mir

set_option Elab.async false
set_option linter.all false
set_option maxRecDepth 100000
set_option maxHeartbeats 4000000
/-! Mir, part D: operations by values. -/
namespace Mir
open PySem PySem.Spec PyProof.Rows L2

abbrev NoT : Addr → Prop := fun _ => False
abbrev Dom (T : Addr → Prop) (H : Hp) : Prop := ∀ p, H p = none → ¬ T p
/-- what is left: the answer d, at any value and heap -/
abbrev Ans (X : Cx) (T : Addr → Prop) (d : PyData) (Q : VK) (H : Hp) : Prop := ∀ w H', Rep T H' d w → Ext NoT H H' → Q w H'
def rD2 (X : Cx) (f : PyData → PyData → R PyData) : R2 := fun v u H Q => ∃ T x y d, Dom T H ∧ Rep T H x v ∧ Rep T H y u ∧ f x y = .ok d ∧ Ans X T d Q H
theorem RepL.laid {T : Addr → Prop} {H : Hp} {ds : List PyData} {xs : List V} {p : Addr} {o : HO} (r : RepL T H ds xs) (h : H p = none) : RepL T (upd H p o) ds xs := r.ext (Ext.laid h)
theorem Rep.laid {T : Addr → Prop} {H : Hp} {ds : PyData} {xs : V} {p : Addr} {o : HO} (r : Rep T H ds xs) (h : H p = none) : Rep T (upd H p o) ds xs := r.ext (Ext.laid h)
/-- a new list, a new tuple -/
theorem Ans.lst {X : Cx} {T : Addr → Prop} {ds : List PyData} {xs : List V} {Q : VK} {H : Hp} (a : Ans X T (.list ds) Q H) (dm : Dom T H) (r : RepL T H ds xs) (z : xs.length ≤ sizeLine) (p : Addr) (h : H p = none) : Q (.ref p) (upd H p (.lst xs)) :=
  a _ _ (.mkList (dm p h) upd_same z (r.laid h)) (Ext.laid h)
theorem Ans.tup {X : Cx} {T : Addr → Prop} {ds : List PyData} {xs : List V} {Q : VK} {H : Hp} (a : Ans X T (.tuple ds) Q H) (dm : Dom T H) (r : RepL T H ds xs) (z : xs.length ≤ sizeLine) (p : Addr) (h : H p = none) : Q (.ref p) (upd H p (.tup xs)) :=
  a _ _ (.mkTuple (dm p h) upd_same z (r.laid h)) (Ext.laid h)
theorem small_iff {i : Int} (h : small i = true) : -(2 ^ 64) < i ∧ i < 2 ^ 64 := by
  unfold small at h
  have := of_decide_eq_true h
  omega

section
variable {X : Cx}
theorem op_binD (op : Operator) : OpR X (binaryOp op) (rD2 X (binD op)) := by
  intro pins s σ H v u vv uu Q I rv ru h
  obtain ⟨T, x, y, d, dm, hx, hy, hd, a⟩ := h
  unfold binD at hd
  split at hd
  · cases hx.int_inv; cases hy.int_inv; cases hd
    exact op_add pins s σ H _ _ vv uu Q I rv ru ⟨_, _, rfl, rfl, a _ _ .mkInt .refl⟩
  · split at hd
    · rename_i hz
      cases hd
      obtain ⟨rfl, _⟩ := hx.str_inv
      obtain ⟨rfl, _⟩ := hy.str_inv
      exact op_add_str pins s σ H _ _ vv uu Q I rv ru ⟨_, _, rfl, rfl, hz, a _ _ (.mkStr (by rw [Str.length_append]; exact hz)) .refl⟩
    · cases hd
  · split at hd
    · rename_i hz
      cases hd
      obtain ⟨l, xs, rfl, n1, h1, z1, r1⟩ := hx.list_inv
      obtain ⟨b, ys, rfl, n2, h2, z2, r2⟩ := hy.list_inv
      have hz' : xs.length + ys.length ≤ sizeLine := by rw [← r1.length, ← r2.length]; exact hz
      exact op_cat pins s σ H _ _ vv uu Q I rv ru ⟨_, _, _, _, rfl, rfl, h1, h2, hz', a.lst dm (r1.append r2) (by rw [List.length_append]; exact hz')⟩
    · cases hd
  · split at hd
    · rename_i hz
      cases hd
      obtain ⟨l, xs, rfl, _, h1, z1, r1⟩ := hx.tuple_inv
      obtain ⟨b, ys, rfl, _, h2, z2, r2⟩ := hy.tuple_inv
      have hz' : xs.length + ys.length ≤ sizeLine := by rw [← r1.length, ← r2.length]; exact hz
      refine op_catA pins s σ H _ _ vv uu Q I rv ru ⟨_, _, _, _, rfl, rfl, .of h1, .of h2, hz', fun e => ?_, fun _ e => ?_, fun _ _ => a.tup dm (r1.append r2) (by rw [List.length_append]; exact hz')⟩
      · have e' := r1.length
        rw [e, List.length_nil] at e'
        rw [List.eq_nil_of_length_eq_zero e', List.nil_append] at a
        exact a _ _ hy .refl
      · have e' := r2.length
        rw [e, List.length_nil] at e'
        rw [List.eq_nil_of_length_eq_zero e', List.append_nil] at a
        exact a _ _ hx .refl
    · cases hd
  · cases hx.int_inv; cases hy.int_inv; cases hd
    exact op_sub pins s σ H _ _ vv uu Q I rv ru ⟨_, _, rfl, rfl, a _ _ .mkInt .refl⟩
  · split at hd
    · rename_i hz
      cases hx.int_inv; cases hy.int_inv; cases hd
      rw [Bool.or_eq_true] at hz
      exact op_mul pins s σ H _ _ vv uu Q I rv ru ⟨_, _, rfl, rfl, hz.imp small_iff small_iff, a _ _ .mkInt .refl⟩
    · cases hd
  · split at hd
    · rename_i hz
      cases hd
      obtain ⟨l, xs, rfl, n1, h1, z1, r1⟩ := hx.list_inv
      cases hy.int_inv
      refine op_rep pins s σ H _ _ vv uu Q I rv ru ⟨_, _, _, rfl, rfl, h1, by omega, by omega, by rw [← r1.length]; exact hz.2, a.lst dm (r1.rep _) ?_⟩
      rw [← (r1.rep _).length]
      simp
      have := hz.2
      rw [Nat.mul_comm]; exact this
    · cases hd
  · split at hd
    · rename_i hz
      cases hx.int_inv; cases hy.int_inv; cases hd
      exact op_fdivW pins s σ H _ _ vv uu Q I rv ru ⟨_, _, rfl, rfl, hz, a _ _ .mkInt .refl⟩
    · cases hd
  · split at hd
    · rename_i hz
      cases hx.int_inv; cases hy.int_inv; cases hd
      exact op_mod pins s σ H _ _ vv uu Q I rv ru ⟨_, _, rfl, rfl, hz, a _ _ .mkInt .refl⟩
    · cases hd
  · split at hd
    · rename_i hz
      cases hx.int_inv; cases hy.int_inv; cases hd
      have := small_iff hz.2.2
      exact op_pow pins s σ H _ _ vv uu Q I rv ru ⟨_, _, rfl, rfl, ⟨hz.1, hz.2.1, by omega⟩, a _ _ .mkInt .refl⟩
    · cases hd
  · cases hd
end

/-! ### truth -/
theorem truthy_dT {P : Program} {w : World} {A : Around} {E : Value → Shared → Prop} {s : Shared} {κ : Type} [DecidableEq κ] {knd : HeapKind P w κ} {d : Addr} {xs : List (κ × Addr × Value)} {Q : Bool → Shared → Prop} (hd : (d == sysModules) = false) (hm : s.heap.DictOfH knd d xs) (hfit : (xs.length : Int) < 2 ^ 63)
    (h : Q (!xs.isEmpty) { s with toks := s.toks + 1 + 1 }) : wpAny (model P w) A (PySem.truthy (Value.ref d)) Q E s := by
  have hne : ((xs.length : Int) != 0) = !xs.isEmpty := by cases xs <;> simp <;> omega
  have key : wpAny (model P w) A (runValue (.builtin "len" ⟨[.ref d], []⟩)) (fun r s' => r = .int xs.length (s.toks + 1) ∧ Q (!xs.isEmpty) s') E s := by
    refine wpAny_runValue (codeAny_builtin entry_len ?_)
    rw [Around.under_plainId plain_len _]
    exact wpAny_mono (wpAny_len_body_dictH (Q := fun r s' => r = .int xs.length (s.toks + 1) ∧ Q (!xs.isEmpty) s') hd hm hfit ⟨rfl, h⟩)
      (fun fin s' h' => by obtain ⟨r, rfl, hq⟩ := h'; exact hq) fun _ _ e => e
  unfold PySem.truthy
  first
    | refine wpAny_bind (wpAny_callSpecial?_none (name := Str.ofString "__bool__") hm.typeIs noBool_dict ?_)
    | refine wpAny_bind (wpAny_pure (wpAny_bind (wpAny_callSpecial?_none (name := Str.ofString "__bool__") hm.typeIs noBool_dict ?_)))
  first
    | refine wpAny_bind (wpAny_specialOf (name := Str.ofString "__len__") hm.typeIs F.slot_dict_len.lookup ?_)
    | refine wpAny_bind (wpAny_pure (wpAny_bind (wpAny_specialOf (name := Str.ofString "__len__") hm.typeIs F.slot_dict_len.lookup ?_)))
  first
    | exact wpAny_bind (wpAny_mono key (fun r s' h' => by obtain ⟨rfl, hq⟩ := h'; exact wpAny_pure (hne ▸ hq)) fun _ _ e => e)
    | exact wpAny_bind (wpAny_pure (wpAny_bind (wpAny_mono key (fun r s' h' => by obtain ⟨rfl, hq⟩ := h'; exact wpAny_pure (hne ▸ hq)) fun _ _ e => e)))
theorem RepK.length {T : Addr → Prop} {H : Hp} : ∀ {ds : List (PyData × PyData)} {ks : List (Key × V)}, RepK T H ds ks → ds.length = ks.length
  | [], ks, h => by
    have e : ks = [] := by simpa [RepK] using h
    subst e; rfl
  | (k, d) :: ds, ks, h => by
    obtain ⟨kk, x, r, e, e2, h1, h2⟩ := by simpa only [RepK] using h
    subst e
    simp [RepK.length h2]
theorem RepT.length {T : Addr → Prop} {H : Hp} : ∀ {ds : List (PyData × PyData)} {ks : List (List Key × V)}, RepT T H ds ks → ds.length = ks.length
  | [], ks, h => by
    have e : ks = [] := by simpa [RepT] using h
    subst e; rfl
  | (k, d) :: ds, ks, h => by
    obtain ⟨kk, x, r, e, e2, h1, h2⟩ := by simpa only [RepT] using h
    subst e
    simp [RepT.length h2]
theorem empty_len {α β : Type} {xs : List α} {ys : List β} (h : xs.length = ys.length) : (!xs.isEmpty) = !ys.isEmpty := by
  cases xs <;> cases ys <;> simp_all
theorem Rep.dict_inv {T : Addr → Prop} {H : Hp} {kvs : List (PyData × PyData)} {v : V} (h : Rep T H (.dict kvs) v) : ∃ a, v = .ref a ∧ ¬ T a ∧ ((∃ ks, Rd H a (.dK ks) ∧ RepK T H kvs ks) ∨ ∃ ks, Rd H a (.dT ks) ∧ RepT T H kvs ks) := by simpa only [Rep] using h
theorem tru_D {X : Cx} : TruR X (fun v H Q => ∃ T d, Rep T H d v ∧ Q (truthy d) H) := by
  intro pins s σ H x v Q I rx h
  obtain ⟨T, d, hr, q⟩ := h
  have hl := line63
  have hs : sizeLine = 16777216 := sizeLine_eq
  match d, hr, q with
  | .none, hr, q => rw [hr.none_inv] at rx; exact tru_ok pins s σ H _ v Q I rx ⟨_, rfl, q⟩
  | .bool b, hr, q => rw [hr.bool_inv] at rx; exact tru_ok pins s σ H _ v Q I rx ⟨_, rfl, q⟩
  | .int b, hr, q => rw [hr.int_inv] at rx; exact tru_ok pins s σ H _ v Q I rx ⟨_, rfl, q⟩
  | .str b, hr, q =>
    obtain ⟨e, z⟩ := hr.str_inv
    rw [e] at rx
    refine tru_ok pins s σ H _ v Q I rx ⟨_, ⟨z, rfl⟩, ?_⟩
    have e2 : ((b.length : Int) != 0) = (b.length != 0) := by
      cases h : b.length <;> simp <;> omega
    rw [e2]; exact q
  | .list ds, hr, q =>
    obtain ⟨a, xs, e, n, h, z, r⟩ := hr.list_inv
    rw [e] at rx
    refine tru_ok pins s σ H _ v Q I rx ⟨_, .inl ⟨xs, .of h, rfl⟩, ?_⟩
    rw [← empty_len r.length]; exact q
  | .tuple ds, hr, q =>
    obtain ⟨a, xs, e, _, h, z, r⟩ := hr.tuple_inv
    rw [e] at rx
    refine tru_ok pins s σ H _ v Q I rx ⟨_, .inr (.inl ⟨xs, .of h, rfl⟩), ?_⟩
    rw [← empty_len r.length]; exact q
  | .dict ds, hr, q =>
    obtain ⟨a, e, n, h⟩ := hr.dict_inv
    rw [e] at rx
    obtain rfl : v = .ref a := rx
    rcases h with ⟨ks, h, r⟩ | ⟨ks, h, r⟩
    · obtain ⟨z, hd, vs, rel, dd⟩ := dk_rd I.hok h
      have hlen : ks.length = vs.length := Paired.length rel
      refine wpAny_truthy_dict hd dd (by omega) ⟨H, I.tok _, ?_⟩
      rw [← empty_len (r.length.trans hlen)]; exact q
    · obtain ⟨z, hd, vs, rel, dd⟩ := dt_rd I.hok h
      have hlen : ks.length = vs.length := Paired.length rel
      refine truthy_dT hd dd (by omega) ⟨H, I.tok _, ?_⟩
      rw [← empty_len (r.length.trans hlen)]; exact q

/-! ### comparisons -/
theorem okD_iff {d : PyData} (h : okD d = true) : d.plain = true ∧ d.depth ≤ 60 := by
  unfold okD at h
  rw [Bool.and_eq_true, decide_eq_true_eq] at h
  exact h
/-- v op u of two data, by the library's rule -/
theorem cmp_of {X : Cx} {op : CmpOp} {b : Bool} {pins : List (Addr × Obj)} {s : Shared} {σ : L2.St} {H : Hp} {T : Addr → Prop} {x y : PyData} {v u : V} {vv uu : Value} {Q : VK} (I : Inv X pins σ H s) (hx : Rep T H x v) (hy : Rep T H y u) (rv : RelV v vv) (ru : RelV u uu)
    (px : x.plain = true) (py : y.plain = true)
    (rule : ∀ as bs, Reads s.heap vv x as → Reads s.heap uu y bs → ∀ Q : Value → Shared → Prop, Q (.bool b) s → wpAny (model X.prog X.w) X.A (compareOp op vv uu) Q X.xe s)
    (q : Q (.bl b) H) : wpAny (model X.prog X.w) X.A (compareOp op vv uu) (EP X pins σ Q) X.xe s := by
  obtain ⟨as, r1⟩ := hx.reads I _ _ _ px rv
  obtain ⟨bs, r2⟩ := hy.reads I _ _ _ py ru
  exact rule as bs r1 r2 _ ⟨.bl b, H, I, rfl, q⟩
theorem ne_none_of {d : PyData} (h : isNone d = false) : d ≠ .none := by
  intro e; subst e; cases h
theorem ltOk_iff {a b : PyData} (h : ltOk a b = true) : W.alike a b = true ∧ a ≠ .none ∧ (a.plain = true ∧ a.depth ≤ 60) ∧ (b.plain = true ∧ b.depth ≤ 60) := by
  unfold ltOk at h
  simp only [Bool.and_eq_true, Bool.not_eq_true'] at h
  exact ⟨h.1.1.1, ne_none_of h.1.1.2, okD_iff h.1.2, okD_iff h.2⟩
theorem isNone_V {T : Addr → Prop} {H : Hp} {d : PyData} {v : V} (h : Rep T H d v) : decide (v = V.non) = isNone d := by
  match d, h with
  | .none, h => rw [h.none_inv]; rfl
  | .bool b, h => rw [h.bool_inv]; rfl
  | .int b, h => rw [h.int_inv]; rfl
  | .str b, h => rw [h.str_inv.1]; rfl
  | .list b, h => obtain ⟨a, xs, e, _⟩ := h.list_inv; rw [e]; rfl
  | .tuple b, h => obtain ⟨a, xs, e, _⟩ := h.tuple_inv; rw [e]; rfl
  | .dict b, h => obtain ⟨a, e, _⟩ := h.dict_inv; rw [e]; rfl

/-! ### keys -/
theorem kD_eqv (a b : Key) : PyData.eqv (kD a) (kD b) = decide (a = b) := by
  cases a with
  | inl i => cases b with
    | inl j =>
      show (i == j) = _
      rw [← key_ll]
    | inr y => rw [key_lr]; rfl
  | inr x => cases b with
    | inl j => rw [key_rl]; rfl
    | inr y =>
      show (x == y) = _
      rw [key_rr]
      by_cases e : x = y
      · subst e; simp
      · rw [decide_eq_false e]; exact beq_eq_false_iff_ne.mpr e
theorem kDs_eqv : ∀ a b : List Key, PyData.eqvAll (a.map kD) (b.map kD) = decide (a = b)
  | [], [] => rfl
  | [], _ :: _ => rfl
  | _ :: _, [] => rfl
  | x :: a, y :: b => by
    show (PyData.eqv (kD x) (kD y) && PyData.eqvAll (a.map kD) (b.map kD)) = _
    rw [kD_eqv, kDs_eqv a b]
    by_cases e : x = y
    · by_cases e2 : a = b
      · subst e e2; simp
      · simp [e, e2]
    · simp [e]
/-- a flat key stands as such; a tuple of flat keys as a tracked tuple of them -/
theorem keyD_all {ds : List PyData} (h : ds.all flatK = true) {T : Addr → Prop} {H : Hp} : ∀ {xs : List V}, RepL T H ds xs → ∃ kk : List Key, ds = kk.map kD ∧ xs = kk.map kV := by
  induction ds with
  | nil => intro xs r; exact ⟨[], rfl, r.nil_inv⟩
  | cons d ds ih =>
    intro xs r
    rw [List.all_cons, Bool.and_eq_true] at h
    obtain ⟨x, t, rfl, h1, h2⟩ := r.cons_inv
    obtain ⟨kk, e1, e2⟩ := ih h.2 h2
    match d, h.1, h1 with
    | .int i, _, h1 => exact ⟨.inl i :: kk, by simp [e1, kD], by simp [e2, kV, h1.int_inv]⟩
    | .str i, _, h1 => exact ⟨.inr i :: kk, by simp [e1, kD], by simp [e2, kV, h1.str_inv.1]⟩
theorem keyD_rep {T : Addr → Prop} {H : Hp} {k : PyData} {y : V} (h : keyD k = true) (r : Rep T H k y) : (∃ kk : Key, k = kD kk ∧ y = kV kk ∧ isTup k = false) ∨ ∃ (kk : List Key) (b : Addr), k = .tuple (kk.map kD) ∧ y = .ref b ∧ H b = some (.tup (kk.map kV)) ∧ isTup k = true := by
  match k, h, r with
  | .int i, _, r => exact .inl ⟨.inl i, rfl, r.int_inv, rfl⟩
  | .str i, _, r => exact .inl ⟨.inr i, rfl, r.str_inv.1, rfl⟩
  | .tuple ds, h, r =>
    obtain ⟨a, xs, e, _, q, z, hr⟩ := r.tuple_inv
    obtain ⟨kk, e1, e2⟩ := keyD_all h hr
    subst e1 e2
    exact .inr ⟨kk, a, rfl, e, q, rfl⟩
theorem kD_notup (a : Key) : isTup (kD a) = false := by cases a <;> rfl
/-- the answer of a dict's looking, beside the data's -/
def LookR (T : Addr → Prop) (H : Hp) : Option PyData → Option V → Prop
  | some d, some x => Rep T H d x
  | none, none => True
  | _, _ => False
theorem RepK.look {T : Addr → Prop} {H : Hp} (k : Key) : ∀ {kvs : List (PyData × PyData)} {ks : List (Key × V)}, RepK T H kvs ks → LookR T H (lookD kvs (kD k)) (valV ks k)
  | [], ks, h => by
    have e : ks = [] := by simpa [RepK] using h
    subst e; trivial
  | (k0, d) :: r, ks, h => by
    obtain ⟨kk, x, t, e, e2, h1, h2⟩ := by simpa only [RepK] using h
    subst e e2
    unfold lookD
    rw [kD_eqv]
    by_cases q : kk = k
    · rw [decide_eq_true q, if_pos rfl, valV_pos q]; exact h1
    · rw [decide_eq_false q, if_neg Bool.false_ne_true, valV_neg q]; exact RepK.look k h2
theorem RepT.look {T : Addr → Prop} {H : Hp} (k : List Key) : ∀ {kvs : List (PyData × PyData)} {ks : List (List Key × V)}, RepT T H kvs ks → LookR T H (lookD kvs (.tuple (k.map kD))) (valV ks k)
  | [], ks, h => by
    have e : ks = [] := by simpa [RepT] using h
    subst e; trivial
  | (k0, d) :: r, ks, h => by
    obtain ⟨kk, x, t, e, e2, h1, h2⟩ := by simpa only [RepT] using h
    subst e e2
    unfold lookD
    have q0 : PyData.eqv (.tuple (kk.map kD)) (.tuple (k.map kD)) = decide (kk = k) := kDs_eqv kk k
    rw [q0]
    by_cases q : kk = k
    · rw [decide_eq_true q, if_pos rfl, valV_pos q]; exact h1
    · rw [decide_eq_false q, if_neg Bool.false_ne_true, valV_neg q]; exact RepT.look k h2
theorem LookR.some_iff {T : Addr → Prop} {H : Hp} {o : Option PyData} {p : Option V} (h : LookR T H o p) : o.isSome = p.isSome := by
  cases o <;> cases p <;> first | rfl | exact h.elim
theorem RepK.kind {T : Addr → Prop} {H : Hp} {kvs : List (PyData × PyData)} {ks : List (Key × V)} {k : PyData} (r : RepK T H kvs ks) (h : kindOk kvs k = true) (t : isTup k = true) : kvs = [] ∧ ks = [] := by
  match kvs, r, h with
  | [], r, _ => exact ⟨rfl, by simpa [RepK] using r⟩
  | (k0, d) :: r, q, h =>
    obtain ⟨kk, x, t', e, e2, h1, h2⟩ := by simpa only [RepK] using q
    subst e2
    simp only [kindOk, Bool.and_eq_true] at h
    have h2 := h.2
    simp [kD_notup, t] at h2
theorem RepT.kind {T : Addr → Prop} {H : Hp} {kvs : List (PyData × PyData)} {ks : List (List Key × V)} {k : PyData} (r : RepT T H kvs ks) (h : kindOk kvs k = true) (t : isTup k = false) : kvs = [] ∧ ks = [] := by
  match kvs, r, h with
  | [], r, _ => exact ⟨rfl, by simpa [RepT] using r⟩
  | (k0, d) :: r, q, h =>
    obtain ⟨kk, x, t', e, e2, h1, h2⟩ := by simpa only [RepT] using q
    subst e2
    simp only [kindOk, Bool.and_eq_true] at h
    have h2 := h.2
    rw [t] at h2
    cases h2
/-- an empty dict is of both kinds -/
theorem dK_nil_H {X : Cx} {pins : List (Addr × Obj)} {σ : L2.St} {H : Hp} {s : Shared} {a : Addr} (I : Inv X pins σ H s) (h : Rd H a (.dK [])) : (a == sysModules) = false ∧ s.heap.DictOfH (tupleKind (mixKind X.prog X.w)) a [] := by
  obtain ⟨z, hd, vs, rel, dd⟩ := dk_rd I.hok h
  cases rel
  obtain ⟨o, es, ep, h1, h2, h3, _, h4, _⟩ := dd
  refine ⟨hd, o, es, ep, h1, h2, h3, ?_, fun x hx => (by cases hx), by simp⟩
  generalize es.toList = l at h4
  cases h4
  rfl
theorem dT_nil_K {X : Cx} {pins : List (Addr × Obj)} {σ : L2.St} {H : Hp} {s : Shared} {a : Addr} (I : Inv X pins σ H s) (h : Rd H a (.dT [])) : (a == sysModules) = false ∧ s.heap.DictOf (mixKind X.prog X.w) a [] := by
  obtain ⟨z, hd, vs, rel, dd⟩ := dt_rd I.hok h
  cases rel
  obtain ⟨o, es, ep, h1, h2, h3, h4, _, _⟩ := dd
  have e0 : es.toList = [] := h4
  refine ⟨hd, o, es, ep, h1, h2, h3, fun e he => ?_, by rw [e0]; exact .nil, by simp⟩
  rw [← Array.mem_toList_iff, e0] at he
  cases he
section
variable {X : Cx} {pins : List (Addr × Obj)} {σ : L2.St} {H : Hp} {s : Shared} {T : Addr → Prop} {kvs : List (PyData × PyData)} {k : PyData} {v y : V} {vv u : Value}
theorem in_dict {Q : Value → Shared → Prop} (hu : X.A.units + 1 < cLine) (I : Inv X pins σ H s) (hv : Rep T H (.dict kvs) v) (hk : Rep T H k y) (ok : kindOk kvs k = true) (rv : RelV v vv) (ry : RelV y u) (h : ∀ s', Inv X pins σ H s' → Q (.bool (lookD kvs k).isSome) s') :
    wpAny (model X.prog X.w) X.A (compareOp .In u vv) Q X.xe s := by
  obtain ⟨a, e, _, hd⟩ := hv.dict_inv
  subst e
  obtain rfl : vv = .ref a := rv
  have kd : keyD k = true := by unfold kindOk at ok; rw [Bool.and_eq_true] at ok; exact ok.1
  rcases keyD_rep kd hk with ⟨kk, rfl, rfl, it⟩ | ⟨kk, b, rfl, rfl, hb, it⟩
  · rcases hd with ⟨ks, hd, r⟩ | ⟨ks, hd, r⟩
    · refine d_in hu I (.inl ⟨ks, kk, hd, rfl, rfl⟩) ry fun s' I' => ?_
      rw [← (r.look kk).some_iff]; exact h s' I'
    · obtain ⟨rfl, rfl⟩ := r.kind ok it
      obtain ⟨hs, dd⟩ := dT_nil_K I hd
      exact wpAny_in_of (kV_is ry) hs dd.mapOf (h _ (I.tok _))
  · rcases hd with ⟨ks, hd, r⟩ | ⟨ks, hd, r⟩
    · obtain ⟨rfl, rfl⟩ := r.kind ok it
      obtain ⟨hs, dd⟩ := dK_nil_H I hd
      obtain rfl : u = .ref b := ry
      exact wpAny_in_heap (tupleKind_room_in1 hu) (key_of I.hok hb) hs dd (h _ (I.tok _))
    · refine d_in hu I (.inr ⟨ks, kk, b, hd, rfl, hb, rfl⟩) ry fun s' I' => ?_
      rw [← (r.look kk).some_iff]; exact h s' I'
theorem notIn_dict {Q : Value → Shared → Prop} (hu : X.A.units + 1 < cLine) (I : Inv X pins σ H s) (hv : Rep T H (.dict kvs) v) (hk : Rep T H k y) (ok : kindOk kvs k = true) (rv : RelV v vv) (ry : RelV y u) (h : ∀ s', Inv X pins σ H s' → Q (.bool (!(lookD kvs k).isSome)) s') :
    wpAny (model X.prog X.w) X.A (compareOp .NotIn u vv) Q X.xe s := by
  obtain ⟨a, e, _, hd⟩ := hv.dict_inv
  subst e
  obtain rfl : vv = .ref a := rv
  have kd : keyD k = true := by unfold kindOk at ok; rw [Bool.and_eq_true] at ok; exact ok.1
  rcases keyD_rep kd hk with ⟨kk, rfl, rfl, it⟩ | ⟨kk, b, rfl, rfl, hb, it⟩
  · rcases hd with ⟨ks, hd, r⟩ | ⟨ks, hd, r⟩
    · refine d_notIn hu I (.inl ⟨ks, kk, hd, rfl, rfl⟩) ry fun s' I' => ?_
      rw [← (r.look kk).some_iff]; exact h s' I'
    · obtain ⟨rfl, rfl⟩ := r.kind ok it
      obtain ⟨hs, dd⟩ := dT_nil_K I hd
      exact wpAny_notIn_of (kV_is ry) hs dd.mapOf (h _ (I.tok _))
  · rcases hd with ⟨ks, hd, r⟩ | ⟨ks, hd, r⟩
    · obtain ⟨rfl, rfl⟩ := r.kind ok it
      obtain ⟨hs, dd⟩ := dK_nil_H I hd
      obtain rfl : u = .ref b := ry
      exact wpAny_notIn_heap (tupleKind_room_in1 hu) (key_of I.hok hb) hs dd (h _ (I.tok _))
    · refine d_notIn hu I (.inr ⟨ks, kk, b, hd, rfl, hb, rfl⟩) ry fun s' I' => ?_
      rw [← (r.look kk).some_iff]; exact h s' I'
end

/-- every comparison -/
theorem op_cmpD {X : Cx} (hu : X.A.units + 100 < cLine) (op : CmpOp) : OpR X (compareOp op) (rD2 X (cmpD op)) := by
  intro pins s σ H v u vv uu Q I rv ru h
  obtain ⟨T, x, y, d, dm, hx, hy, hd, a⟩ := h
  unfold cmpD at hd
  split at hd
  · split at hd
    · rename_i hz
      rw [Bool.and_eq_true] at hz
      cases hd
      obtain ⟨p1, z1⟩ := okD_iff hz.1
      obtain ⟨p2, z2⟩ := okD_iff hz.2
      exact cmp_of (b := PyData.eqv x y) I hx hy rv ru p1 p2 (fun as bs r1 r2 Q q => SeqAt.eq_plain r1 r2 p1 p2 (by omega) q) (a _ _ .mkBool .refl)
    · cases hd
  · split at hd
    · rename_i hz
      rw [Bool.and_eq_true] at hz
      cases hd
      obtain ⟨p1, z1⟩ := okD_iff hz.1
      obtain ⟨p2, z2⟩ := okD_iff hz.2
      exact cmp_of (b := !PyData.eqv x y) I hx hy rv ru p1 p2 (fun as bs r1 r2 Q q => SeqAt.ne_plain r1 r2 p1 p2 (by omega) q) (a _ _ .mkBool .refl)
    · cases hd
  · split at hd
    · rename_i hz
      cases hd
      obtain ⟨al, nn, ⟨p1, z1⟩, p2, z2⟩ := ltOk_iff hz
      exact cmp_of (b := W.dataLt x y) I hx hy rv ru p1 p2 (fun as bs r1 r2 Q q => W.lt_data r1 r2 al nn (by omega) q) (a _ _ .mkBool .refl)
    · cases hd
  · split at hd
    · rename_i hz
      cases hd
      obtain ⟨al, nn, ⟨p1, z1⟩, p2, z2⟩ := ltOk_iff hz
      exact cmp_of (b := W.dataLt y x) I hx hy rv ru p1 p2 (fun as bs r1 r2 Q q => W.gt_data r1 r2 al nn (by omega) q) (a _ _ .mkBool .refl)
    · cases hd
  · split at hd
    · rename_i hz
      cases hd
      obtain ⟨al, nn, ⟨p1, z1⟩, p2, z2⟩ := ltOk_iff hz
      exact cmp_of (b := !W.dataLt y x) I hx hy rv ru p1 p2 (fun as bs r1 r2 Q q => W.le_data r1 r2 al nn (by omega) q) (a _ _ .mkBool .refl)
    · cases hd
  · split at hd
    · rename_i hz
      cases hd
      obtain ⟨al, nn, ⟨p1, z1⟩, p2, z2⟩ := ltOk_iff hz
      exact cmp_of (b := !W.dataLt x y) I hx hy rv ru p1 p2 (fun as bs r1 r2 Q q => W.ge_data r1 r2 al nn (by omega) q) (a _ _ .mkBool .refl)
    · cases hd
  · cases hd
    rw [hy.none_inv] at ru
    exact op_isN pins s σ H _ _ vv uu Q I rv ru ⟨rfl, by rw [isNone_V hx]; exact a _ _ .mkBool .refl⟩
  · cases hd
    rw [hy.none_inv] at ru
    exact op_notN pins s σ H _ _ vv uu Q I rv ru ⟨rfl, by rw [isNone_V hx]; exact a _ _ .mkBool .refl⟩
  · cases hd
    rw [hx.bool_inv] at rv
    rw [hy.bool_inv] at ru
    exact op_isBl pins s σ H _ _ vv uu Q I rv ru ⟨_, _, rfl, rfl, a _ _ .mkBool .refl⟩
  · cases hd
    rw [hx.bool_inv] at rv
    rw [hy.bool_inv] at ru
    exact op_notBl pins s σ H _ _ vv uu Q I rv ru ⟨_, _, rfl, rfl, a _ _ .mkBool .refl⟩
  · rename_i xs
    split at hd
    · rename_i hz
      rw [Bool.and_eq_true] at hz
      cases hd
      obtain ⟨p1, z1⟩ := okD_iff hz.1
      obtain ⟨p2, z2⟩ := okD_iff hz.2
      exact cmp_of (b := xs.any fun z => PyData.eqv z x) I hx hy rv ru p1 p2 (fun as bs r1 r2 Q q => SeqAt.in_list_data r2 r1 (by simpa [PyData.plain] using p2) p1 (by omega) q) (a _ _ .mkBool .refl)
    · cases hd
  · rename_i xs
    split at hd
    · rename_i hz
      rw [Bool.and_eq_true] at hz
      cases hd
      obtain ⟨p1, z1⟩ := okD_iff hz.1
      obtain ⟨p2, z2⟩ := okD_iff hz.2
      exact cmp_of (b := xs.any fun z => PyData.eqv z x) I hx hy rv ru p1 p2 (fun as bs r1 r2 Q q => SeqAt.in_tuple_data r2 r1 (by simpa [PyData.plain] using p2) p1 (by omega) q) (a _ _ .mkBool .refl)
    · cases hd
  · cases hd
    obtain ⟨e1, _⟩ := hx.str_inv
    obtain ⟨e2, _⟩ := hy.str_inv
    rw [e1] at rv
    rw [e2] at ru
    exact op_in_str pins s σ H _ _ vv uu Q I rv ru ⟨_, _, rfl, rfl, a _ _ .mkBool .refl⟩
  · rename_i kvs
    split at hd
    · rename_i hz
      cases hd
      exact in_dict (by omega) I hy hx hz ru rv fun s' I' => ⟨.bl _, H, I', rfl, a _ _ .mkBool .refl⟩
    · cases hd
  · rename_i xs
    split at hd
    · rename_i hz
      rw [Bool.and_eq_true] at hz
      cases hd
      obtain ⟨p1, z1⟩ := okD_iff hz.1
      obtain ⟨p2, z2⟩ := okD_iff hz.2
      exact cmp_of (b := !xs.any fun z => PyData.eqv z x) I hx hy rv ru p1 p2 (fun as bs r1 r2 Q q => SeqAt.notIn_list_data r2 r1 (by simpa [PyData.plain] using p2) p1 (by omega) q) (a _ _ .mkBool .refl)
    · cases hd
  · rename_i xs
    split at hd
    · rename_i hz
      rw [Bool.and_eq_true] at hz
      cases hd
      obtain ⟨p1, z1⟩ := okD_iff hz.1
      obtain ⟨p2, z2⟩ := okD_iff hz.2
      exact cmp_of (b := !xs.any fun z => PyData.eqv z x) I hx hy rv ru p1 p2 (fun as bs r1 r2 Q q => SeqAt.notIn_tuple_data r2 r1 (by simpa [PyData.plain] using p2) p1 (by omega) q) (a _ _ .mkBool .refl)
    · cases hd
  · cases hd
    obtain ⟨e1, _⟩ := hx.str_inv
    obtain ⟨e2, _⟩ := hy.str_inv
    rw [e1] at rv
    rw [e2] at ru
    exact op_notin_str pins s σ H _ _ vv uu Q I rv ru ⟨_, _, rfl, rfl, a _ _ .mkBool .refl⟩
  · rename_i kvs
    split at hd
    · rename_i hz
      cases hd
      exact notIn_dict (by omega) I hy hx hz ru rv fun s' I' => ⟨.bl _, H, I', rfl, a _ _ .mkBool .refl⟩
    · cases hd
  · cases hd
end Mir

set_option Elab.async false
set_option linter.all false
set_option maxRecDepth 100000
set_option maxHeartbeats 4000000
set_option exponentiation.threshold 3000
/-! Mir, part E: subscripts, slices, built-in functions, by values. -/
namespace Mir
open PySem PySem.Spec PyProof.Rows L2

theorem optR_ok {α : Type} {o : Option α} {a : α} (h : optR o = .ok a) : o = some a := by
  cases o with
  | none => cases h
  | some b => cases h; rfl
section
variable {X : Cx}
theorem ix_D (hu : X.A.units + 1 < cLine) : IxR X (rD2 X subD) := by
  intro value slice pins s σ H x y v u Q I rx ry h hs
  obtain ⟨T, dx, dy, d, dm, hx, hy, hd, a⟩ := h
  unfold subD at hd
  split at hd
  · obtain ⟨p, xs, e, n, hp, z, r⟩ := hx.list_inv
    obtain ⟨w, ew, rw'⟩ := r.atI (optR_ok hd)
    rw [e] at rx
    rw [hy.int_inv] at ry
    exact ix_list value slice pins s σ H _ _ v u Q I rx ry ⟨_, _, _, _, rfl, rfl, .of hp, ew, a _ _ rw' .refl⟩ hs
  · obtain ⟨p, xs, e, n, hp, z, r⟩ := hx.tuple_inv
    obtain ⟨w, ew, rw'⟩ := r.atI (optR_ok hd)
    rw [e] at rx
    rw [hy.int_inv] at ry
    exact ix_tup value slice pins s σ H _ _ v u Q I rx ry ⟨_, _, _, _, rfl, rfl, .of hp, ew, a _ _ rw' .refl⟩ hs
  · obtain ⟨e, z⟩ := hx.str_inv
    rw [e] at rx
    rw [hy.int_inv] at ry
    obtain ⟨c, ec, rfl⟩ := Option.map_eq_some_iff.mp (optR_ok hd)
    exact ix_str value slice pins s σ H _ _ v u Q I rx ry ⟨_, _, _, rfl, rfl, z, ec, a _ _ (.mkStr (by show 1 ≤ sizeLine; rw [sizeLine_eq]; omega)) .refl⟩ hs
  · rename_i kvs
    split at hd
    · rename_i ok
      have look := optR_ok hd
      obtain ⟨p, e, _, hd'⟩ := hx.dict_inv
      rw [e] at rx
      obtain rfl : v = .ref p := rx
      have kd : keyD dy = true := by unfold kindOk at ok; rw [Bool.and_eq_true] at ok; exact ok.1
      have fin : ∀ {g : Option V}, LookR T H (lookD kvs dy) g → ∃ x, g = some x ∧ Rep T H d x := fun {g} l => by
        rw [look] at l
        cases g with
        | none => exact l.elim
        | some x => exact ⟨x, rfl, l⟩
      have go : ∀ {x : V}, DGet H p y (some x) → Rep T H d x → wpAny (model X.prog X.w) X.A (subscriptTail value slice (.ref p) u) (EP X pins σ Q) X.xe s := fun {x} g rx' =>
        tail_any (dict_typeIs I g) PySem.F.slot_dict_getitem.lookup (d_getItem hu I g ry fun w' s3 I3 rw' => ⟨x, H, I3, rw', a _ _ rx' .refl⟩) hs
      rcases keyD_rep kd hy with ⟨kk, rfl, rfl, it⟩ | ⟨kk, b, rfl, rfl, hb, it⟩
      · rcases hd' with ⟨ks, hk, r⟩ | ⟨ks, hk, r⟩
        · obtain ⟨x, e1, e2⟩ := fin (r.look kk)
          exact go (.inl ⟨ks, kk, hk, rfl, e1.symm⟩) e2
        · obtain ⟨rfl, rfl⟩ := r.kind ok it
          cases look
      · rcases hd' with ⟨ks, hk, r⟩ | ⟨ks, hk, r⟩
        · obtain ⟨rfl, rfl⟩ := r.kind ok it
          cases look
        · obtain ⟨x, e1, e2⟩ := fin (r.look kk)
          exact go (.inr ⟨ks, kk, b, hk, rfl, hb, e1.symm⟩) e2
    · cases hd
  · cases hd

/-- a[lo:hi] -/
def rSlD (X : Cx) : V → Option Int → Option Int → Hp → VK → Prop := fun v lo hi H Q => ∃ T x d, Dom T H ∧ Rep T H x v ∧ cutX x lo hi = .ok d ∧ Ans X T d Q H
theorem cutS_len (z : Str) (lo hi : Option Int) : (L2.cutS z lo hi).length ≤ z.length := L2.cutS_length z lo hi
theorem sl_D : SlR X (rSlD X) := by
  intro pins s σ H x v vl vu lo hi sl Q I rx hs pl pu h
  obtain ⟨T, dx, d, dm, hx, hd, a⟩ := h
  unfold cutX at hd
  split at hd
  · cases hd
    obtain ⟨p, xs, e, n, hp, z, r⟩ := hx.list_inv
    rw [e] at rx
    exact sl_list pins s σ H _ v vl vu _ _ sl Q I rx hs pl pu ⟨_, _, rfl, .of hp, a.lst dm (r.cut _ _) (Nat.le_trans (cutV_length _ _ _) z)⟩
  · cases hd
    obtain ⟨p, xs, e, n, hp, z, r⟩ := hx.tuple_inv
    subst e
    refine sl_tupA pins s σ H _ v vl vu _ _ sl Q I rx hs pl pu ⟨_, _, rfl, .of hp, fun ⟨w1, w2⟩ => ?_, fun _ => a.tup dm (r.cut _ _) (Nat.le_trans (cutV_length _ _ _) z)⟩
    refine a _ _ ?_ .refl
    have e : ∀ ds : List PyData, RepL T H ds xs → cutD ds lo hi = ds := fun ds r => by
      unfold cutD
      rw [r.length, w1, w2]
      simp [← r.length]
    rw [e _ r]
    exact hx
  · cases hd
    obtain ⟨e, z⟩ := hx.str_inv
    rw [e] at rx
    exact sl_str pins s σ H _ v vl vu _ _ sl Q I rx hs pl pu ⟨_, rfl, z, a _ _ (.mkStr (Nat.le_trans (cutS_len _ _ _) z)) .refl⟩
  · cases hd

/-! ### built-in functions -/
def rBlt (X : Cx) (f : B) : List V → Hp → VK → Prop := fun vs H Q => ∃ T ds d, Dom T H ∧ RepL T H ds vs ∧ bltD f ds = .ok d ∧ Ans X T d Q H
theorem RepL.one {T : Addr → Prop} {H : Hp} {d : PyData} {xs : List V} (h : RepL T H [d] xs) : ∃ x, xs = [x] ∧ Rep T H d x := by
  obtain ⟨x, r, rfl, h1, h2⟩ := h.cons_inv
  rw [h2.nil_inv]; exact ⟨x, rfl, h1⟩
theorem RepL.two {T : Addr → Prop} {H : Hp} {d e : PyData} {xs : List V} (h : RepL T H [d, e] xs) : ∃ x y, xs = [x, y] ∧ Rep T H d x ∧ Rep T H e y := by
  obtain ⟨x, r, rfl, h1, h2⟩ := h.cons_inv
  obtain ⟨y, rfl, h3⟩ := h2.one
  exact ⟨x, y, rfl, h1, h3⟩
theorem itemsR_rep {T : Addr → Prop} {H : Hp} {d : PyData} {xs : List PyData} {v : V} (h : itemsR d = .ok xs) (r : Rep T H d v) : ∃ a vs, v = .ref a ∧ ¬ T a ∧ ((d = .list xs ∧ H a = some (.lst vs)) ∨ (d = .tuple xs ∧ H a = some (.tup vs))) ∧ vs.length ≤ sizeLine ∧ RepL T H xs vs := by
  unfold itemsR at h
  split at h
  · cases h
    obtain ⟨p, xs, e, n, hp, z, r⟩ := r.list_inv
    exact ⟨p, xs, e, n, .inl ⟨rfl, hp⟩, z, r⟩
  · cases h
    obtain ⟨p, xs, e, n, hp, z, r⟩ := r.tuple_inv
    exact ⟨p, xs, e, n, .inr ⟨rfl, hp⟩, z, r⟩
  · cases h
theorem bind_ok {α β : Type} {r : R α} {f : α → R β} {b : β} (h : r.bind f = .ok b) : ∃ a, r = .ok a ∧ f a = .ok b := by
  cases r with
  | ok a => exact ⟨a, rfl, h⟩
  | exc x l => cases h
  | bad => cases h
theorem one_ok {f : PyData → R PyData} {ds : List PyData} {d : PyData} (h : one f ds = .ok d) : ∃ x, ds = [x] ∧ f x = .ok d := by
  unfold one at h
  split at h
  · exact ⟨_, rfl, h⟩
  · cases h
theorem two_ok {f : PyData → PyData → R PyData} {ds : List PyData} {d : PyData} (h : two f ds = .ok d) : ∃ x y, ds = [x, y] ∧ f x y = .ok d := by
  unfold two at h
  split at h
  · exact ⟨_, _, rfl, h⟩
  · cases h
theorem intR_ok {d : PyData} {i : Int} (h : intR d = .ok i) : d = .int i := by
  unfold intR at h
  split at h
  · cases h; rfl
  · cases h
theorem blt_len : CallR X (.builtin "len") (rBlt X .len) := by
  intro pins s σ H vs us Q I r h
  obtain ⟨T, ds, d, dm, hr, hd, a⟩ := h
  obtain ⟨x, rfl, hd⟩ := one_ok hd
  obtain ⟨v, rfl, hx⟩ := hr.one
  have hd : lenD x = .ok d := hd
  unfold lenD at hd
  split at hd
  · cases hd
    obtain ⟨p, xs, e, n, hp, z, r'⟩ := hx.list_inv
    subst e
    exact call_len pins s σ H _ us Q I r ⟨_, _, rfl, .inl ⟨xs, .of hp, rfl⟩, by rw [← r'.length]; exact a _ _ .mkInt .refl⟩
  · cases hd
    obtain ⟨p, xs, e, n, hp, z, r'⟩ := hx.tuple_inv
    subst e
    exact call_len pins s σ H _ us Q I r ⟨_, _, rfl, .inr ⟨xs, .of hp, rfl⟩, by rw [← r'.length]; exact a _ _ .mkInt .refl⟩
  · cases hd
    obtain ⟨e, z⟩ := hx.str_inv
    subst e
    exact call_len pins s σ H _ us Q I r ⟨_, _, rfl, ⟨z, rfl⟩, a _ _ .mkInt .refl⟩
  · cases hd
    obtain ⟨p, e, n, hd⟩ := hx.dict_inv
    subst e
    obtain ⟨u, rfl, ru⟩ := vals1 r
    obtain rfl : u = .ref p := ru
    rcases hd with ⟨ks, hd, r'⟩ | ⟨ks, hd, r'⟩
    · exact d_len I hd fun t s' I' => ⟨V.int (ks.length : Nat), H, I', ⟨_, rfl⟩, by rw [← r'.length]; exact a _ _ .mkInt .refl⟩
    · obtain ⟨z, hs, ys, rel, dd⟩ := dt_rd I.hok hd
      have hl : ks.length = ys.length := Paired.length rel
      refine call_len_dictH hs dd (by rw [← hl]; rw [sizeLine_eq] at z; omega) ?_
      rw [← hl, ← r'.length]
      exact ⟨V.int _, H, I.tok _, ⟨_, rfl⟩, a _ _ .mkInt .refl⟩
  · cases hd
theorem blt_tuple : CallR X (.type "tuple") (rBlt X .tuple_) := by
  intro pins s σ H vs us Q I r h
  obtain ⟨T, ds, d, dm, hr, hd, a⟩ := h
  obtain ⟨x, rfl, hd⟩ := one_ok hd
  obtain ⟨v, rfl, hx⟩ := hr.one
  obtain ⟨xs, h1, h2⟩ := bind_ok hd
  cases h2
  obtain ⟨p, ws, rfl, n, c, z, rr⟩ := itemsR_rep h1 hx
  rcases c with ⟨rfl, hp⟩ | ⟨rfl, hp⟩
  · exact call_tuple_of pins s σ H _ us Q I r ⟨p, ws, rfl, .inl ⟨.of hp, a.tup dm rr z⟩⟩
  · exact call_tuple_of pins s σ H _ us Q I r ⟨p, ws, rfl, .inr ⟨.of hp, a _ _ hx .refl⟩⟩
theorem blt_list : CallR X (.type "list") (rBlt X .list_) := by
  intro pins s σ H vs us Q I r h
  obtain ⟨T, ds, d, dm, hr, hd, a⟩ := h
  obtain ⟨x, rfl, hd⟩ := one_ok hd
  obtain ⟨v, rfl, hx⟩ := hr.one
  obtain ⟨xs, h1, h2⟩ := bind_ok hd
  cases h2
  obtain ⟨p, ws, rfl, n, c, z, rr⟩ := itemsR_rep h1 hx
  rcases c with ⟨rfl, hp⟩ | ⟨rfl, hp⟩
  · exact call_list_of pins s σ H _ us Q I r ⟨p, ws, rfl, .inl (.of hp), a.lst dm rr z⟩
  · exact call_list_of pins s σ H _ us Q I r ⟨p, ws, rfl, .inr (.of hp), a.lst dm rr z⟩
theorem plainAll_of {xs : List PyData} (h : ∀ d ∈ xs, okD d = true) : PyData.plainAll xs = true ∧ PyData.depthAll xs ≤ 60 := by
  induction xs with
  | nil => exact ⟨rfl, Nat.zero_le _⟩
  | cons d ds ih =>
    obtain ⟨a, b⟩ := ih fun d hd => h d (List.mem_cons_of_mem _ hd)
    obtain ⟨p, q⟩ := okD_iff (h d List.mem_cons_self)
    refine ⟨by simp [PyData.plainAll, p, a], ?_⟩
    rw [PyData.depthAll]
    omega
theorem truthy_eq (d : PyData) : PyData.truthy d = truthy d := by
  cases d with
  | str x =>
    show ((x.length : Int) != 0) = (x.length != 0)
    cases x.length <;> simp <;> omega
  | _ => rfl
theorem fits_of {T : Addr → Prop} {H : Hp} {d : PyData} {v : V} (h : Rep T H d v) : d.fits63 := by
  have hs : sizeLine = 16777216 := sizeLine_eq
  match d, h with
  | .none, _ => trivial
  | .bool _, _ => trivial
  | .int _, _ => trivial
  | .dict _, _ => trivial
  | .str x, h => have := h.str_inv.2; show (x.length : Int) < 2 ^ 63; omega
  | .list x, h => obtain ⟨p, xs, e, n, hp, z, r⟩ := h.list_inv; have := r.length; show (x.length : Int) < 2 ^ 63; omega
  | .tuple x, h => obtain ⟨p, xs, e, n, hp, z, r⟩ := h.tuple_inv; have := r.length; show (x.length : Int) < 2 ^ 63; omega
theorem RepL.mem {T : Addr → Prop} {H : Hp} : ∀ {ds : List PyData} {xs : List V}, RepL T H ds xs → ∀ d ∈ ds, ∃ x ∈ xs, Rep T H d x
  | [], _, _, d, hd => by cases hd
  | e :: ds, xs, h, d, hd => by
    obtain ⟨x, r, rfl, h1, h2⟩ := h.cons_inv
    rcases List.mem_cons.mp hd with rfl | hd
    · exact ⟨x, List.mem_cons_self, h1⟩
    · obtain ⟨y, hy, q⟩ := h2.mem d hd
      exact ⟨y, List.mem_cons_of_mem _ hy, q⟩
theorem blt_all (hc : X.calm = true) : CallR X (.builtin "all") (rBlt X .all_) := by
  intro pins s σ H vs us Q I r h
  obtain ⟨T, ds, d, dm, hr, hd, a⟩ := h
  obtain ⟨x, rfl, hd⟩ := one_ok hd
  obtain ⟨v, rfl, hx⟩ := hr.one
  have hd : allD x = .ok d := hd
  unfold allD at hd
  split at hd
  · rename_i xs _ _
    split at hd
    · rename_i hz
      cases hd
      rw [List.all_eq_true] at hz
      obtain ⟨p, ws, e, n, hp, z, rr⟩ := hx.list_inv
      subst e
      obtain ⟨u, rfl, ru⟩ := vals1 r
      obtain rfl : u = .ref p := ru
      obtain ⟨its, rv, pl, _⟩ := I.list (.of hp)
      obtain ⟨as, rd⟩ := RepL.reads I _ _ _ (plainAll_of hz).1 rr rv
      refine PySem.W.all_list_data (I.ok.hd hc) pl.isList (by simpa using rd) (plainAll_of hz).1 (fun d hd => let ⟨y, _, q⟩ := rr.mem d hd; fits_of q) fun h' tk hk => ⟨.bl _, H, I.kept hk, rfl, ?_⟩
      rw [show xs.all PyData.truthy = xs.all truthy from by rw [funext truthy_eq]]
      exact a _ _ .mkBool .refl
    · cases hd
  · cases hd
theorem blt_any (hc : X.calm = true) : CallR X (.builtin "any") (rBlt X .any_) := by
  intro pins s σ H vs us Q I r h
  obtain ⟨T, ds, d, dm, hr, hd, a⟩ := h
  obtain ⟨x, rfl, hd⟩ := one_ok hd
  obtain ⟨v, rfl, hx⟩ := hr.one
  have hd : anyD x = .ok d := hd
  unfold anyD at hd
  split at hd
  · rename_i xs _ _
    split at hd
    · rename_i hz
      cases hd
      rw [List.all_eq_true] at hz
      obtain ⟨p, ws, e, n, hp, z, rr⟩ := hx.list_inv
      subst e
      obtain ⟨u, rfl, ru⟩ := vals1 r
      obtain rfl : u = .ref p := ru
      obtain ⟨its, rv, pl, _⟩ := I.list (.of hp)
      obtain ⟨as, rd⟩ := RepL.reads I _ _ _ (plainAll_of hz).1 rr rv
      refine PySem.W.any_list_data (I.ok.hd hc) pl.isList (by simpa using rd) (plainAll_of hz).1 (fun d hd => let ⟨y, _, q⟩ := rr.mem d hd; fits_of q) fun h' tk hk => ⟨.bl _, H, I.kept hk, rfl, ?_⟩
      rw [show xs.any PyData.truthy = xs.any truthy from by rw [funext truthy_eq]]
      exact a _ _ .mkBool .refl
    · cases hd
  · cases hd
theorem blt_int : CallR X (.type "int") (rBlt X .int_) := by
  intro pins s σ H vs us Q I r h
  obtain ⟨T, ds, d, dm, hr, hd, a⟩ := h
  obtain ⟨x, rfl, hd⟩ := one_ok hd
  obtain ⟨v, rfl, hx⟩ := hr.one
  have hd : intD x = .ok d := hd
  unfold intD at hd
  split at hd
  · cases hd
    rw [hx.int_inv] at r
    exact call_int1 pins s σ H _ us Q I r (.inl ⟨_, rfl, a _ _ .mkInt .refl⟩)
  · cases hd
    rw [hx.bool_inv] at r
    exact call_int1 pins s σ H _ us Q I r (.inr ⟨_, rfl, a _ _ .mkInt .refl⟩)
  · split at hd
    · split at hd
      · rename_i hn hz
        cases hd
        rw [hx.str_inv.1] at r
        exact call_int_str pins s σ H _ us Q I r ⟨_, _, rfl, hn, hz, a _ _ .mkInt .refl⟩
      · cases hd
    · cases hd
  · cases hd
theorem allInts_some : ∀ {xs : List PyData} {ns : List Int}, allInts xs = some ns → xs = ns.map .int
  | [], ns, h => by cases h; rfl
  | .int i :: r, ns, h => by
    obtain ⟨m, hm, rfl⟩ := Option.map_eq_some_iff.mp (show (allInts r).map (i :: ·) = some ns from h)
    rw [allInts_some hm]; rfl
theorem RepL.ints {T : Addr → Prop} {H : Hp} : ∀ {ns : List Int} {xs : List V}, RepL T H (ns.map .int) xs → xs = ns.map V.int
  | [], _, h => h.nil_inv
  | n :: ns, xs, h => by
    obtain ⟨x, r, rfl, h1, h2⟩ := RepL.cons_inv (d := .int n) h
    rw [h1.int_inv, h2.ints]; rfl
theorem blt_sum (hc : X.calm = true) : CallR X (.builtin "sum") (rBlt X .sum) := by
  intro pins s σ H vs us Q I r h
  obtain ⟨T, ds, d, dm, hr, hd, a⟩ := h
  obtain ⟨x, rfl, hd⟩ := one_ok hd
  obtain ⟨v, rfl, hx⟩ := hr.one
  have hd : sumD x = .ok d := hd
  unfold sumD at hd
  split at hd
  · split at hd
    · rename_i hn
      cases hd
      rw [allInts_some hn] at hx
      obtain ⟨p, ws, e, n, hp, z, rr⟩ := hx.list_inv
      subst e
      rw [rr.ints] at hp
      exact cr_sum hc pins s σ H _ us Q I r ⟨p, _, rfl, .of hp, a _ _ .mkInt .refl⟩
    · cases hd
  · cases hd
theorem blt_min2 (hc : X.calm = true) : CallR X (.builtin "min") (rBlt X .min2) := by
  intro pins s σ H vs us Q I r h
  obtain ⟨T, ds, d, dm, hr, hd, a⟩ := h
  obtain ⟨x, y, rfl, hd⟩ := two_ok hd
  obtain ⟨v, w, rfl, hx, hy⟩ := hr.two
  obtain ⟨i, hi, hd⟩ := bind_ok hd
  obtain ⟨j, hj, hd⟩ := bind_ok hd
  cases hd
  rw [intR_ok hi] at hx
  rw [intR_ok hj] at hy
  rw [hx.int_inv, hy.int_inv] at r
  exact call_min2 hc pins s σ H _ us Q I r ⟨_, _, rfl, a _ _ .mkInt .refl⟩
theorem blt_max2 (hc : X.calm = true) : CallR X (.builtin "max") (rBlt X .max2) := by
  intro pins s σ H vs us Q I r h
  obtain ⟨T, ds, d, dm, hr, hd, a⟩ := h
  obtain ⟨x, y, rfl, hd⟩ := two_ok hd
  obtain ⟨v, w, rfl, hx, hy⟩ := hr.two
  obtain ⟨i, hi, hd⟩ := bind_ok hd
  obtain ⟨j, hj, hd⟩ := bind_ok hd
  cases hd
  rw [intR_ok hi] at hx
  rw [intR_ok hj] at hy
  rw [hx.int_inv, hy.int_inv] at r
  exact call_max2 hc pins s σ H _ us Q I r ⟨_, _, rfl, a _ _ .mkInt .refl⟩
theorem blt_abs : CallR X (.builtin "abs") (rBlt X .abs) := by
  intro pins s σ H vs us Q I r h
  obtain ⟨T, ds, d, dm, hr, hd, a⟩ := h
  obtain ⟨x, rfl, hd⟩ := one_ok hd
  obtain ⟨v, rfl, hx⟩ := hr.one
  obtain ⟨i, hi, hd⟩ := bind_ok hd
  cases hd
  rw [intR_ok hi] at hx
  rw [hx.int_inv] at r
  exact call_abs pins s σ H _ us Q I r ⟨_, rfl, a _ _ .mkInt .refl⟩
theorem num_len {n : Nat} (h : n.log2 < 1920) : (Str.ofString (toString ((n : Nat) : Int))).length ≤ 1920 := by
  have h1 : n < 10 ^ 1920 := by
    by_cases e : n = 0
    · subst e; exact Nat.pow_pos (by decide)
    · have q := (Nat.log2_lt e).mp h
      exact Nat.lt_of_lt_of_le q (Nat.pow_le_pow_left (by decide) _)
  have := TL.numL_len (by decide) h1
  rw [← TL.tl_num] at this
  simpa [Str.length] using this
theorem str_len {i : Int} (h : i.natAbs.log2 < 1920) : (toString i : Str).length ≤ sizeLine := by
  have hs : sizeLine = 16777216 := sizeLine_eq
  show (Str.ofString (toString i)).length ≤ sizeLine
  by_cases h0 : 0 ≤ i
  · obtain ⟨n, rfl⟩ := Int.eq_ofNat_of_zero_le h0
    have := num_len (n := n) (by simpa using h)
    omega
  · have e := len_text_negI (n := i) (by omega)
    obtain ⟨n, hn⟩ := Int.eq_ofNat_of_zero_le (show 0 ≤ 0 - i by omega)
    rw [hn] at e
    have : i.natAbs = n := by omega
    rw [this] at h
    have := num_len h
    omega
theorem blt_str : CallR X (.type "str") (rBlt X .str_) := by
  intro pins s σ H vs us Q I r h
  obtain ⟨T, ds, d, dm, hr, hd, a⟩ := h
  obtain ⟨x, rfl, hd⟩ := one_ok hd
  obtain ⟨v, rfl, hx⟩ := hr.one
  obtain ⟨i, hi, hd⟩ := bind_ok hd
  split at hd
  · rename_i hz
    cases hd
    rw [intR_ok hi] at hx
    rw [hx.int_inv] at r
    exact call_str_int pins s σ H _ us Q I r ⟨_, rfl, hz, a _ _ (.mkStr (str_len hz)) .refl⟩
  · cases hd
theorem alikes_iff {xs : List PyData} (h : alikes xs = true) : (∀ d ∈ xs, okD d = true) ∧ (∀ d ∈ xs, d ≠ .none) ∧ W.AllAlike xs := by
  unfold alikes at h
  rw [List.all_eq_true] at h
  refine ⟨fun d hd => ?_, fun d hd => ?_, fun d hd e he => ?_⟩
  · have := h d hd
    simp only [Bool.and_eq_true] at this
    exact this.1.1
  · have := h d hd
    simp only [Bool.and_eq_true, Bool.not_eq_true'] at this
    exact ne_none_of this.1.2
  · have := h d hd
    simp only [Bool.and_eq_true, List.all_eq_true] at this
    exact this.2 e he
/-- the item that is the least (greatest): it stands for itself -/
theorem pick_rep {pins : List (Addr × Obj)} {s : Shared} {σ : L2.St} {H : Hp} {T : Addr → Prop} {xs : List PyData} {ws : List V} {its : List Value} {i : Nat} {v : Value} {m : PyData} {h' : Heap} {bs : List Addr} (I : Inv X pins σ H s) (pl : ∀ d ∈ xs, okD d = true)
    (rr : RepL T H xs ws) (rv : Vals ws its) (hv : its[i]? = some v) (hk : ∀ b o, s.heap.get? b = some o → h'.get? b = some o) (hm : Reads h' v m bs) : ∃ x, RelV x v ∧ Rep T H m x := by
  have hl : i < ws.length := by
    have := rv.length
    have := (List.getElem?_eq_some_iff.mp hv).1
    omega
  obtain ⟨u, hu, ru⟩ := rv.get (List.getElem?_eq_getElem hl)
  rw [hv] at hu; cases hu
  have hl2 : i < xs.length := by rw [rr.length]; exact hl
  obtain ⟨x, hx, rx⟩ := rr.get (List.getElem?_eq_getElem hl2)
  rw [List.getElem?_eq_getElem hl] at hx; cases hx
  have pd := (okD_iff (pl _ (List.getElem_mem hl2))).1
  obtain ⟨as, rd⟩ := rx.reads I _ _ _ pd ru
  have e := SeqAt.plain_unique _ _ _ _ _ pd (PyProof.Rows.Reads.keeps hk rd) hm
  exact ⟨_, ru, by rw [← e]; exact rx⟩
theorem blt_min1 (hu : X.A.units + 100 < cLine) (hc : X.calm = true) : CallR X (.builtin "min") (rBlt X .min1) := by
  intro pins s σ H vs us Q I r h
  obtain ⟨T, ds, d, dm, hr, hd, a⟩ := h
  obtain ⟨x, rfl, hd⟩ := one_ok hd
  obtain ⟨v, rfl, hx⟩ := hr.one
  obtain ⟨xs, h1, h2⟩ := bind_ok hd
  unfold minR at h2
  split at h2
  · cases h2
  · rename_i d0 ds'
    split at h2
    · rename_i hz
      cases h2
      obtain ⟨q1, q2, q3⟩ := alikes_iff hz
      obtain ⟨p, ws, rfl, n, c, z, rr⟩ := itemsR_rep h1 hx
      obtain ⟨u, rfl, ru⟩ := vals1 r
      obtain rfl : u = .ref p := ru
      obtain ⟨pa, da⟩ := plainAll_of q1
      rcases c with ⟨rfl, hp⟩ | ⟨rfl, hp⟩
      · obtain ⟨its, rv, pl, _⟩ := I.list (.of hp)
        obtain ⟨as, rd⟩ := RepL.reads I _ _ _ pa rr rv
        refine PySem.W.min_list_data (I.ok.hd hc) pl.isList (by simpa using rd) ⟨fun x hx y hy => q3 x hx y hy, q2⟩ (by omega) fun i v h' tk bs hv hm hk => ?_
        obtain ⟨x, rx, rep⟩ := pick_rep I q1 rr rv (by simpa using hv) hk hm
        exact ⟨x, H, I.kept hk, rx, a _ _ rep .refl⟩
      · obtain ⟨its, rv, pl, _⟩ := I.tuple (.of hp)
        obtain ⟨as, rd⟩ := RepL.reads I _ _ _ pa rr rv
        refine PySem.W.min_tuple_data (I.ok.hd hc) pl (by simpa using rd) ⟨fun x hx y hy => q3 x hx y hy, q2⟩ (by omega) fun i v h' tk bs hv hm hk => ?_
        obtain ⟨x, rx, rep⟩ := pick_rep I q1 rr rv (by simpa using hv) hk hm
        exact ⟨x, H, I.kept hk, rx, a _ _ rep .refl⟩
    · cases h2
theorem blt_max1 (hu : X.A.units + 100 < cLine) (hc : X.calm = true) : CallR X (.builtin "max") (rBlt X .max1) := by
  intro pins s σ H vs us Q I r h
  obtain ⟨T, ds, d, dm, hr, hd, a⟩ := h
  obtain ⟨x, rfl, hd⟩ := one_ok hd
  obtain ⟨v, rfl, hx⟩ := hr.one
  obtain ⟨xs, h1, h2⟩ := bind_ok hd
  unfold maxR at h2
  split at h2
  · cases h2
  · rename_i d0 ds'
    split at h2
    · rename_i hz
      cases h2
      obtain ⟨q1, q2, q3⟩ := alikes_iff hz
      obtain ⟨p, ws, rfl, n, c, z, rr⟩ := itemsR_rep h1 hx
      obtain ⟨u, rfl, ru⟩ := vals1 r
      obtain rfl : u = .ref p := ru
      obtain ⟨pa, da⟩ := plainAll_of q1
      rcases c with ⟨rfl, hp⟩ | ⟨rfl, hp⟩
      · obtain ⟨its, rv, pl, _⟩ := I.list (.of hp)
        obtain ⟨as, rd⟩ := RepL.reads I _ _ _ pa rr rv
        refine PySem.W.max_list_data (I.ok.hd hc) pl.isList (by simpa using rd) ⟨fun x hx y hy => q3 x hx y hy, q2⟩ (by omega) fun i v h' tk bs hv hm hk => ?_
        obtain ⟨x, rx, rep⟩ := pick_rep I q1 rr rv (by simpa using hv) hk hm
        exact ⟨x, H, I.kept hk, rx, a _ _ rep .refl⟩
      · obtain ⟨its, rv, pl, _⟩ := I.tuple (.of hp)
        obtain ⟨as, rd⟩ := RepL.reads I _ _ _ pa rr rv
        refine PySem.W.max_tuple_data (I.ok.hd hc) pl (by simpa using rd) ⟨fun x hx y hy => q3 x hx y hy, q2⟩ (by omega) fun i v h' tk bs hv hm hk => ?_
        obtain ⟨x, rx, rep⟩ := pick_rep I q1 rr rv (by simpa using hv) hk hm
        exact ⟨x, H, I.kept hk, rx, a _ _ rep .refl⟩
    · cases h2

theorem each_of {pins : List (Addr × Obj)} {s : Shared} {σ : L2.St} {H : Hp} {T : Addr → Prop} (I : Inv X pins σ H s) : ∀ {xs : List PyData} {ws : List V} {its : List Value}, (∀ d ∈ xs, okD d = true) → RepL T H xs ws → Vals ws its →
    W.EachIs (fun v d => ∃ x, RelV x v ∧ Rep T H d x) its xs ∧ W.EachIs (fun v d => ∃ as, Reads s.heap v d as) its xs
  | [], ws, its, _, r, rv => by
    rw [r.nil_inv] at rv
    cases rv
    exact ⟨.nil, .nil⟩
  | d :: ds, ws, its, h, r, rv => by
    obtain ⟨x, t, rfl, h1, h2⟩ := r.cons_inv
    cases rv with
    | cons r1 r2 =>
      obtain ⟨a, b⟩ := each_of I (fun e he => h e (List.mem_cons_of_mem _ he)) h2 r2
      exact ⟨.cons ⟨x, r1, h1⟩ a, .cons (h1.reads I _ _ _ (okD_iff (h d List.mem_cons_self)).1 r1) b⟩
theorem of_each {H : Hp} {T : Addr → Prop} : ∀ {its : List Value} {xs : List PyData}, W.EachIs (fun v d => ∃ x, RelV x v ∧ Rep T H d x) its xs → ∃ ws, Vals ws its ∧ RepL T H xs ws
  | _, _, .nil => ⟨[], .nil, .nil⟩
  | _, _, .cons ⟨x, r, h⟩ t => by
    obtain ⟨ws, a, b⟩ := of_each t
    exact ⟨x :: ws, .cons r a, .cons h b⟩
theorem sortable_iff {xs : List PyData} (h : sortable xs = true) : alikes xs = true ∧ W.Sortable xs := by
  unfold sortable at h
  rw [Bool.and_eq_true, Bool.or_eq_true, List.all_eq_true, List.all_eq_true] at h
  obtain ⟨a, b⟩ := h
  refine ⟨a, ?_⟩
  obtain ⟨q1, q2, q3⟩ := alikes_iff a
  rcases b with b | b
  · refine .inl fun d hd => ?_
    have := b d hd
    unfold isTup1 at this
    split at this
    · exact ⟨_, _, rfl⟩
    · cases this
  · refine .inr fun d hd => ⟨q2 d hd, fun ys e => ?_⟩
    have := b d hd
    rw [e] at this
    cases this
theorem kInts {T : Addr → Prop} {H : Hp} : ∀ {kvs : List (PyData × PyData)} {ks : List (Key × V)} {ns : List Int}, RepK T H kvs ks → allInts (kvs.map (·.1)) = some ns → ks.map (·.1) = ns.map Sum.inl
  | [], ks, ns, h, e => by
    have e1 : ks = [] := by simpa [RepK] using h
    subst e1; cases e; rfl
  | (k0, d) :: r, ks, ns, h, e => by
    obtain ⟨kk, x, t, e1, e2, h1, h2⟩ := by simpa only [RepK] using h
    subst e1 e2
    cases kk with
    | inl i =>
      obtain ⟨m, hm, rfl⟩ := Option.map_eq_some_iff.mp (show (allInts (r.map (·.1))).map (i :: ·) = some ns from e)
      rw [List.map_cons, kInts h2 hm]; rfl
    | inr z => exact nomatch (show (none : Option (List Int)) = some ns from e)
theorem noTup {T : Addr → Prop} {H : Hp} : ∀ {kvs : List (PyData × PyData)} {ks : List (List Key × V)} {ns : List Int}, RepT T H kvs ks → allInts (kvs.map (·.1)) = some ns → ns = []
  | [], ks, ns, h, e => by cases e; rfl
  | (k0, d) :: r, ks, ns, h, e => by
    obtain ⟨kk, x, t, e1, e2, h1, h2⟩ := by simpa only [RepT] using h
    subst e1 e2
    exact nomatch (show (none : Option (List Int)) = some ns from e)
theorem repL_intsM {T : Addr → Prop} {H : Hp} : ∀ ns : List Int, RepL T H (ns.map .int) (ns.map V.int)
  | [] => .nil
  | n :: ns => .cons .mkInt (repL_intsM ns)
theorem merge_uniq {ys ks : List Int} (p : ys.Perm ks) (s : ys.Pairwise (· ≤ ·)) : ks.mergeSort (fun i j => decide (i ≤ j)) = ys := by
  have h1 : (ks.mergeSort (fun i j => decide (i ≤ j))).Pairwise (· ≤ ·) := by
    have := List.pairwise_mergeSort (le := fun i j : Int => decide (i ≤ j)) (fun a b c h1 h2 => by simp only [decide_eq_true_eq] at *; omega) (fun a b => by simp only [Bool.or_eq_true, decide_eq_true_eq]; omega) ks
    exact this.imp fun h => by simpa using h
  exact List.Perm.eq_of_pairwise (le := fun i j : Int => i ≤ j) (fun a b _ _ h1 h2 => by omega) h1 s ((List.mergeSort_perm ks _).trans p.symm)
/-- sorted(d) of a dict whose keys are numbers, however many -/
theorem call_sortedDw {X : Cx} (hcalm : X.calm = true) : CallR X (.builtin "sorted") (fun xs H Q => ∃ (a : Addr) (kvs : List (Key × V)) (ks : List Int), xs = [.ref a] ∧ Rd H a (.dK kvs) ∧ kvs.map (·.1) = ks.map Sum.inl ∧ ks.length < 4000 ∧
    ∀ (ys : List Int) (p : Addr), ys.Perm ks → ys.Pairwise (· ≤ ·) → H p = none → Q (.ref p) (upd H p (.lst (ys.map V.int)))) := by
  rintro pins s σ H xs us Q I r ⟨a, kvs, ks, rfl, hd, hks, hlt, q⟩
  obtain ⟨u, rfl, rx⟩ := vals1 r
  cases rx
  obtain ⟨z, lo, vs, rel, dd⟩ := dk_rd I.hok hd
  obtain ⟨ep, hat⟩ := dd.dictAt
  have hkeys : vs.map (·.1) = ks.map Sum.inl := rel.keys.symm.trans hks
  have hl : vs.length = ks.length := by simpa using congrArg List.length hkeys
  have hz := sizeLine_eq
  refine Calls.call_function_entry kind_sorted plain_sorted entry_sorted (args_sorted1 _) ?_
  unfold Builtin.«sorted»
  refine wpAny_bind (m := checkCount "sorted" 1 1 _) (wpAny_pure ?_)
  refine wpAny_bind (W.kdu_collect (A := X.A.in1) (W.kdl_dict (knd := mixKind X.prog X.w) (kvs := vs) (ep := ep) lo) (I.ok.hd hcalm) hat (by omega) fun h' tk acc hk hacc => ?_)
  have hal : acc.toList.length = ks.length := by rw [Array.length_toList, hacc.1, hl]
  have hS : IntsAre acc.toList ks := ints_each hal fun j v e => by
    obtain ⟨k, x, e1, e2⟩ := hacc.2 j v (by rw [← Array.getElem?_toList]; exact e)
    have e3 : (vs.map (·.1))[j]? = some k := by rw [List.getElem?_map, e1]; rfl
    rw [hkeys, List.getElem?_map] at e3
    obtain ⟨y, e4, rfl⟩ := Option.map_eq_some_iff.mp e3
    rcases keyIs_shape (show keyIs (Sum.inl y) v = true from e2) with ⟨i, t, ek, ev⟩ | ⟨z, t, ek, ev⟩
    · cases ek
      exact ⟨y, t, e4, ev⟩
    · cases ek
  have I1 : Inv X pins σ H { s with heap := h', toks := tk } := I.kept hk
  refine wpAny_bind (wpAny_newList ?_ (by omega))
  have hoL : (h'.push (seqObj "list" acc.toList.toArray 0)).get? h'.objs.size = some (seqObj "list" acc.toList.toArray 0) := Heap.get?_push_size _ rfl
  show wpAny _ _ _ _ _ { s with heap := h'.push (seqObj "list" acc.toList.toArray 0), toks := tk }
  refine wpAny_bind (wpAny_holding (wpAny_call_entry slot_list_sort ⟨_, hoL, rfl⟩ entry_list_sort
    (list_sort_treeAny (s := { s with heap := h'.push (seqObj "list" acc.toList.toArray 0), toks := tk }) hoL hS (by omega) fun out ys g1 g2 g3 => ⟨_, rfl, ?_⟩) (args_list_sort _)))
  obtain ⟨e', he'⟩ := sortedHeap_at (vs := acc.toList) (out := out) hoL
  have hlen : (ys.map V.int).length ≤ sizeLine := by
    rw [List.length_map, g2.length_eq]
    omega
  refine wpAny_pure ⟨_, rfl, .ref h'.objs.size, upd H h'.objs.size (.lst (ys.map V.int)), I1.laid (t' := tk) (fun b u e => ?_) (Nat.le_refl _)
    (show ObjOk X.prog X.w _ _ _ (.lst (ys.map V.int)) from ⟨hlen, out.toList, e', vals_of_ints g1, by rw [Array.toArray_toList]; exact he'⟩), rfl, q ys _ g2 g3 (I1.hok.fresh (Nat.le_refl _))⟩
  have hb : b < h'.objs.size := Heap.lt_size e
  rw [sortedHeap_old (Nat.ne_of_lt hb) (by rw [size_push']; exact Nat.lt_succ_of_lt hb)]
  exact Heap.get?_push_of_some _ e
theorem blt_sorted (hc : X.calm = true) (hu : X.A.units + 100 < cLine) : CallR X (.builtin "sorted") (rBlt X .sorted) := by
  intro pins s σ H vs us Q I r h
  obtain ⟨T, ds, d, dm, hr, hd, a⟩ := h
  obtain ⟨x, rfl, hd⟩ := one_ok hd
  obtain ⟨v, rfl, hx⟩ := hr.one
  have hd : sortedD x = .ok d := hd
  unfold sortedD at hd
  split at hd
  · rename_i xs _ _
    split at hd
    · rename_i hz
      cases hd
      obtain ⟨al, so⟩ := sortable_iff hz
      obtain ⟨q1, q2, q3⟩ := alikes_iff al
      obtain ⟨p, ws, e, n, hp, z, rr⟩ := hx.list_inv
      subst e
      obtain ⟨u, rfl, ru⟩ := vals1 r
      obtain rfl : u = .ref p := ru
      obtain ⟨its, rv, pl, _⟩ := I.list (.of hp)
      obtain ⟨e1, e2⟩ := each_of I q1 rr rv
      refine W.sorted_data (enc := id) pl.isList e1 e2 (by simpa using q3) (by simpa using so) (by rw [rr.length]; exact z) (fun b hb => ?_) fun out ho ho2 => ?_
      · have := (okD_iff (q1 b hb)).2
        show X.A.units + 2 + b.depth < cLine
        omega
      · obtain ⟨ws', a1, a2⟩ := of_each ho2
        obtain ⟨ep, he'⟩ := PyProof.Rows.sortedAll_at s.heap its out.toArray
        have hlen : ws'.length ≤ sizeLine := by rw [← a2.length, List.length_mergeSort, rr.length]; exact z
        refine ⟨.ref _, upd H (s.heap.objs.size + 1) (.lst ws'), I.laid (t' := s.toks) (fun _ _ => PyProof.Rows.sortedAll_old) (Nat.le_succ _) ⟨hlen, out, ep, a1, he'⟩, rfl, ?_⟩
        exact a.lst dm a2 hlen _ (I.hok.fresh (Nat.le_succ _))
    · cases hd
  · rename_i kvs
    split at hd
    · rename_i ns hn
      split at hd
      · rename_i hz
        cases hd
        obtain ⟨p, e, n, hp⟩ := hx.dict_inv
        subst e
        rcases hp with ⟨ks, hp, rr⟩ | ⟨ks, hp, rr⟩
        · refine call_sortedDw hc pins s σ H _ us Q I r ⟨p, ks, ns, rfl, hp, kInts rr hn, hz.2, fun ys q pm pw hq => ?_⟩
          rw [merge_uniq pm pw] at a
          exact a.lst dm (repL_intsM ys) (by rw [List.length_map, pm.length_eq, sizeLine_eq]; omega) q hq
        · rw [noTup rr hn] at hz; exact absurd hz.1 (by decide)
      · cases hd
    · cases hd
  · cases hd

/-! ### isinstance -/
def tyName : Ty → String
  | .int => "int" | .bool => "bool" | .str => "str" | .tuple => "tuple" | .list => "list" | .dict => "dict"
def rIsa (X : Cx) (t : Ty) : List V → Hp → VK → Prop := fun vs H Q => ∃ T d x, vs = [x, .ty (tyName t)] ∧ Rep T H d x ∧ Q (.bl (isaD t d)) H
theorem blt_isa (t : Ty) : CallR X (.builtin "isinstance") (rIsa X t) := by
  intro pins s σ H vs us Q I r h
  obtain ⟨T, d, x, rfl, hx, q⟩ := h
  have go : ∀ {n : String}, TyX X.K H x (.type n) → kitB n (tyName t) = some (isaD t d) → wpAny (model X.prog X.w) X.A (call (.builtin "isinstance") us) (EP X pins σ Q) X.xe s := fun {n} ty k =>
    call_isi pins s σ H _ us Q I r ⟨x, _, _, _, _, rfl, .ty _, ty, kit_ty k, q⟩
  match d, hx with
  | .none, hx => rw [hx.none_inv] at *; exact go (.base .non) (by cases t <;> decide +kernel)
  | .bool b, hx => rw [hx.bool_inv] at *; exact go (.base (.bl b)) (by cases t <;> rfl)
  | .int b, hx => rw [hx.int_inv] at *; exact go (.base (.int b)) (by cases t <;> rfl)
  | .str b, hx => rw [hx.str_inv.1] at *; exact go (.base (.str b)) (by cases t <;> rfl)
  | .list b, hx => obtain ⟨p, xs, e, n, hp, z, rr⟩ := hx.list_inv; subst e; exact go (.base (.lst hp)) (by cases t <;> rfl)
  | .tuple b, hx => obtain ⟨p, xs, e, n, hp, z, rr⟩ := hx.tuple_inv; subst e; exact go (.base (.tup hp)) (by cases t <;> rfl)
  | .dict b, hx =>
    obtain ⟨p, e, n, hp⟩ := hx.dict_inv; subst e
    have k : kitB "dict" (tyName t) = some (isaD t (.dict b)) := by cases t <;> rfl
    rcases hp with ⟨ks, hp | ⟨o, hp⟩, rr⟩ | ⟨ks, hp | ⟨o, hp⟩, rr⟩
    · exact go (.base (.dK hp)) k
    · exact go (.fDict hp) k
    · exact go (.base (.dT hp)) k
    · obtain ⟨u1, u2, rfl, r1, r2⟩ := vals2 r
      obtain rfl : u1 = .ref p := r1
      obtain rfl : u2 = .type (tyName t) := r2
      obtain ⟨_, _, xs, _, o', es, ep, h1, h2, _⟩ := (show ObjOk X.prog X.w H s.heap p (.frz o (.dT ks)) from I.hok p _ hp).2
      exact PySem.W.kia_one PySem.W.kitx_dict I.kIn ⟨o', h1, h2.1⟩ (kit_ty (K := X.K) k) (fun z => nomatch z) fun tk => ⟨.bl _, H, I.tok tk, rfl, q⟩
end
end Mir

set_option Elab.async false
set_option linter.all false
set_option maxRecDepth 100000
set_option maxHeartbeats 4000000
/-! Mir, part E1: list(reversed(x)), dict(pairs), len(set(x)), text.index(x). -/
namespace Mir
open PySem PySem.Spec PyProof.Rows L2 RT

section
variable {prog : Program} {w : World} {A : Around} {E : Value → Shared → Prop} {s : Shared}
theorem extend_rev {R : Result → Shared → Prop} {it l : Addr} {items : Array Value} (hh : A.handled = none) (hit : s.heap.IsRevIter it l ((items.size : Int) - 1)) (hl : s.heap.IsList l items) (hne : l ≠ it) (hn : items.size ≤ sizeLine) (S : Addr) (res : Value) (c₀ : Nat) (hS : s.heap.get? S = some { cls := .type "list", data := .seq #[] c₀ }) (hSi : S ≠ it) (hSl : S ≠ l)
    (hR : ∀ h' tk acc' c', (∀ b o, b ≠ S → b ≠ it → s.heap.get? b = some o → h'.get? b = some o) → h'.get? S = some { cls := .type "list", dict := none, data := .seq acc' c', slots := #[] } →
      ItemsOf (fun i v => items[items.size - 1 - i]? = some v) acc' items.size → R (.ok (.ret res)) { s with heap := h', toks := tk }) :
    wpAny (model prog w) A.in1 (Builtin.List.listExtendWith (.ref S) (.ref it) res)
      (fun fin s' => match fin with | .done f => R (.ok f) s' | .again c' => c'.quiet = true ∧ codeAny (model prog w) A c' R s') (fun e s' => R (.error e) s') s := by
  have W := (Walks.listRev (prog := prog) (w := w) (A := A.in1) hh it l hne items).toS
  have hSf : S ∉ [it, l] := by simp only [List.mem_cons, List.not_mem_nil, or_false, not_or]; exact ⟨hSi, hSl⟩
  have hT : s.TypeIs (.ref it) "list_reverseiterator" := hit.typeIs
  have h1 : Builtin.List.listSameRef (.ref S) (.ref it) = false := by simp [Builtin.List.listSameRef, hSi]
  unfold Builtin.List.listExtendWith
  refine wpAny_bind (wpAny_typeOf hT ?_)
  rw [if_neg (by rw [h1]; decide)]
  refine wpAny_bind (wpAny_pyIter_revIter hit ?_)
  refine wpAny_bind (wpAny_holding ?_)
  unfold Builtin.List.listLengthHint
  refine wpAny_bind (wpAny_specialOf hT nolen_lri ?_)
  show wpAny _ A.in1 (specialOf (Value.ref it) (Str.ofString "__length_hint__") >>= _) _ _ _
  refine wpAny_bind (wpAny_specialOf hT hint_lri ?_)
  generalize hid : ("list_reverseiterator.__length_hint__" : String) = id0
  wp_delta
  rw [show splitId id0 = some ("list_reverseiterator", "__length_hint__") from by subst hid; decide +kernel]
  subst hid
  refine wpAny_bind (wpAny_isInstance (b := true) hT (by rw [isSubtype_type]; kernel_rfl) ?_)
  refine wpAny_pure ?_
  rw [if_neg (by decide)]
  have e0 : ((items.size : Nat) : Int) - 1 - ((0 : Nat) : Int) = (items.size : Int) - 1 := by omega
  refine wpAny_pure ⟨plainId_quiet F.plain_extend_loop _, codeAny_extend_loopS W hn _ hSf _ items.size 0 _ _ _ rfl (Nat.zero_le _) ⟨Nat.zero_le _, by rw [e0]; exact hit, hl⟩ hS (ItemsOf.nil _) fun s' acc' c' hm hS' hacc => ?_⟩
  rw [Moved.eq_with hm]
  refine hR s'.heap s'.toks acc' c' (fun b o hb hb2 e => hm.heap b o (fun hmem => ?_) e) hS' hacc
  rcases List.mem_cons.mp hmem with e' | hmem
  · exact hb e'
  · exact hb2 (List.mem_singleton.mp hmem)
theorem call_list_rev {Q : Value → Shared → Prop} {it l : Addr} {items : Array Value} (hh : A.handled = none) (hit : s.heap.IsRevIter it l ((items.size : Int) - 1)) (hl : s.heap.IsList l items) (hne : l ≠ it) (hn : items.size ≤ sizeLine)
    (hQ : ∀ h' tk acc' c', (∀ b o, b ≠ it → s.heap.get? b = some o → h'.get? b = some o) →
      h'.get? s.heap.objs.size = some { cls := .type "list", dict := none, data := .seq acc' c', slots := #[] } → ItemsOf (fun i v => items[items.size - 1 - i]? = some v) acc' items.size → Q (.ref s.heap.objs.size) { s with heap := h', toks := tk }) :
    wpAny (model prog w) A (call (.type "list") [.ref it]) Q E s := by
  obtain ⟨oi, hoi, _⟩ := id hit
  obtain ⟨ol, hol, _⟩ := id hl
  have hSi : s.heap.objs.size ≠ it := Nat.ne_of_gt (Heap.lt_size hoi)
  have hSl : s.heap.objs.size ≠ l := Nat.ne_of_gt (Heap.lt_size hol)
  refine callType_codes (Q₁ := fun obj s₁ => obj = .ref s.heap.objs.size ∧ s₁ = { s with heap := s.heap.push { cls := .type "list", data := .seq #[] } }) F.called_list (F.typeCall_list_1 _) F.entry_list_init
    (code_list_new _ ⟨rfl, rfl⟩) fun obj s₁ h₁ => ?_
  obtain ⟨rfl, rfl⟩ := h₁
  have hS : (s.heap.push { cls := .type "list", data := .seq #[] }).get? s.heap.objs.size = some { cls := .type "list", data := .seq #[] } := Heap.get?_push_size _ rfl
  refine ⟨⟨_, hS, rfl⟩, F.args_list_init_2 _ _, ?_⟩
  show wpAny _ _ (do let old ← Builtin.List.listItems (.ref s.heap.objs.size); Builtin.List.listUpdate (.ref s.heap.objs.size) (fun _ => #[]); letGo old.toList.reverse; Builtin.List.listExtendWith (.ref s.heap.objs.size) (.ref it) .none) _ _ _
  refine wpAny_bind ?_
  unfold Builtin.List.listItems
  refine wpAny_bind (wpAny_seqItems hS rfl (wpAny_pure ?_))
  show wpAny _ _ (updateSeq s.heap.objs.size (fun _ => #[]) >>= fun _ => letGo (#[] : Array Value).toList.reverse >>= fun _ => Builtin.List.listExtendWith (.ref s.heap.objs.size) (.ref it) .none) _ _ _
  refine wpAny_bind (wpAny_updateSeq hS rfl ?_)
  have hS₂ := Heap.get?_update_self (Obj.mapSeq (fun _ => (#[] : Array Value))) hS rfl
  have oth : ∀ b o, b ≠ s.heap.objs.size → s.heap.get? b = some o → ((s.heap.push { cls := .type "list", data := .seq #[] }).update s.heap.objs.size (Obj.mapSeq (fun _ => (#[] : Array Value)))).get? b = some o :=
    fun b o hb e => (Heap.get?_update_other _ _ (Ne.symm hb)).trans (Heap.get?_push_of_some _ e)
  refine wpAny_bind (wpAny_letGo ?_)
  have hR := extend_rev (s := { s with heap := (s.heap.push { cls := .type "list", data := .seq #[] }).update s.heap.objs.size (Obj.mapSeq (fun _ => (#[] : Array Value))) }) (A := A.in1) (prog := prog) (w := w) (R := wants (fun r s₂ => r = .none ∧ Q (.ref s.heap.objs.size) s₂) E)
    hh (hit.at fun o e => oth it o (Ne.symm hSi) e) ?hl hne hn s.heap.objs.size .none _ hS₂ hSi hSl fun h' tk acc' c' hk hS' hacc => ⟨rfl, hQ h' tk acc' c' (fun b o hb e => hk b o (Nat.ne_of_lt (Heap.lt_size e)) hb (oth b o (Nat.ne_of_lt (Heap.lt_size e)) e)) hS' hacc⟩
  · exact hR
  · obtain ⟨o, ho, c, n, d⟩ := hl
    exact ⟨o, oth l o (Ne.symm hSl) ho, c, n, d⟩
end
section
variable {X : Cx}
def tListRev (K : PySem.W.Frag) (te : TE) : TE := fun σ H Q => te σ H fun v H1 => ∃ (a : Addr) (xs : List V), v = .ref a ∧ SqL K H1 a xs ∧ ∀ q, H1 q = none → Q (.ref q) (upd H1 q (.lst xs.reverse))
theorem pe_listRev {e : Expr} {te : TE} {p p2 pos pos2 : Pos} (hc : X.calm = true) (hg : Gl X "list") (hm : X.mg "list" = none) (hg2 : Gl X "reversed") (hm2 : X.mg "reversed" = none) (he : PE X e te)
    (hs : starEach [e] X.env = (false, eval e X.env) :: starEach [] X.env)
    (hs2 : starEach [.Call (.Name "reversed" p2) [e] [] pos2] X.env = (false, eval (.Call (.Name "reversed" p2) [e] [] pos2) X.env) :: starEach [] X.env := by rfl) :
    PE X (.Call (.Name "list" p) [.Call (.Name "reversed" p2) [e] [] pos2] [] pos) (tListRev X.K te) := by
  refine ⟨fun pins s σ H Q I h => ?_⟩
  refine Call_ (ld_blt I hg hm (by decide +kernel : bootBuiltins ("list" : Str) = some (.type "list")) (PyProof.Rows.callWith_type1 (args_cons (Call_ (ld_blt I hg2 hm2 PyProof.Rows.boot_reversed (PyProof.Rows.callWith_type1 (args_cons (thn (he.run pins s σ H _ I h) fun u s1 ⟨v, H1, I1, r1, q1⟩ => args_nil ?_) hs) hs rfl))) hs2) hs2 rfl))
  obtain ⟨a, xs, ev, hq, q⟩ := q1
  subst ev
  obtain rfl : u = Value.ref a := r1
  obtain ⟨its, rv, p', hz⟩ := I1.list hq
  refine call_reversed_list p'.isList (args_nil ?_)
  have k0 : ∀ b o, s1.heap.get? b = some o → (s1.heap.push (revObj a ((its.toArray.size : Int) - 1))).get? b = some o := fun b o e => Heap.get?_push_of_some _ e
  have I2 : Inv X pins σ H1 { s1 with heap := s1.heap.push (revObj a ((its.toArray.size : Int) - 1)) } := I1.kept (t' := s1.toks) k0
  obtain ⟨f0, f1, f2, f3, f4, f5⟩ := I1.fpOk (H' := H1) (b := s1.heap.objs.size) (Nat.le_refl _) (I1.hok.fresh (Nat.le_refl _))
  have hl := p'.isList
  obtain ⟨ol, hol, _⟩ := id hl
  have hne : a ≠ s1.heap.objs.size := Nat.ne_of_lt (Heap.lt_size hol)
  have hn : its.toArray.size ≤ sizeLine := by rw [List.size_toArray, ← rv.length]; exact hz
  refine call_list_rev (s := { s1 with heap := s1.heap.push (revObj a ((its.toArray.size : Int) - 1)) }) (I1.ok.hd hc) ⟨_, Heap.get?_push_size _ rfl, rfl, rfl⟩ (hl.push _) hne hn fun h' tk acc c' hk hS hi => ?_
  have hS' : (s1.heap.push (revObj a ((its.toArray.size : Int) - 1))).objs.size = s1.heap.objs.size + 1 := Heap.size_push _ _
  have I3 : Inv X pins σ (upd H1 (s1.heap.push (revObj a ((its.toArray.size : Int) - 1))).objs.size (.lst xs.reverse)) { s1 with heap := (s1.heap.push (revObj a ((its.toArray.size : Int) - 1))).push { cls := .type "list", dict := none, data := .seq acc c', slots := #[] } } :=
    I2.laid (t' := s1.toks) (fun b o e => Heap.get?_push_of_some _ e) (Nat.le_refl _) ⟨by rw [List.length_reverse]; exact hz, acc.toList, c', vals_rev rv hi, by rw [Array.toArray_toList]; exact Heap.get?_push_size _ rfl⟩
  have fr : H1 (s1.heap.push (revObj a ((its.toArray.size : Int) - 1))).objs.size = none := I1.hok.fresh (by rw [hS']; omega)
  have I4 := I3.turned (it := s1.heap.objs.size) (h' := h') (t' := tk) (fun b o hb e => ?_) ?_ f1 f3 f4 f5
  · exact ⟨.ref _, _, I4, rfl, q _ fr⟩
  · rcases Heap.get?_push_cases e with ⟨rfl, rfl⟩ | e
    · exact hS
    · exact hk b o hb e
  · rw [upd_ne (fun z => Nat.succ_ne_self _ (Eq.trans z hS').symm)]; exact f0
end
/-! ### dicts are written -/
theorem RepK.any {T : Addr → Prop} {H : Hp} (k : Key) : ∀ {kvs : List (PyData × PyData)} {ks : List (Key × V)}, RepK T H kvs ks → (kvs.any fun p => p.1.eqv (kD k)) = ks.any fun kv => decide (kv.1 = k)
  | [], ks, h => by
    have e : ks = [] := by simpa [RepK] using h
    subst e; rfl
  | (k0, d) :: r, ks, h => by
    obtain ⟨kk, x, t, e, e2, h1, h2⟩ := by simpa only [RepK] using h
    subst e e2
    rw [List.any_cons, List.any_cons, kD_eqv, RepK.any k h2]
theorem RepK.map {T : Addr → Prop} {H : Hp} (k : Key) {y : PyData} {v : V} (q : Rep T H y v) : ∀ {kvs : List (PyData × PyData)} {ks : List (Key × V)}, RepK T H kvs ks → RepK T H (kvs.map fun p => if p.1.eqv (kD k) = true then (p.1, y) else p) (ks.map fun kv => if kv.1 = k then (kv.1, v) else kv)
  | [], ks, h => by
    have e : ks = [] := by simpa [RepK] using h
    subst e; simp [RepK]
  | (k0, d) :: r, ks, h => by
    obtain ⟨kk, x, t, e, e2, h1, h2⟩ := by simpa only [RepK] using h
    subst e e2
    rw [List.map_cons, List.map_cons]
    have := RepK.map k q h2
    simp only [kD_eqv]
    by_cases z : kk = k
    · rw [if_pos (by simpa using z), if_pos z]
      simp only [RepK]; exact ⟨_, _, _, rfl, rfl, q, this⟩
    · rw [if_neg (by simpa using z), if_neg z]
      simp only [RepK]; exact ⟨_, _, _, rfl, rfl, h1, this⟩
theorem RepK.append {T : Addr → Prop} {H : Hp} {k : Key} {y : PyData} {v : V} (q : Rep T H y v) : ∀ {kvs : List (PyData × PyData)} {ks : List (Key × V)}, RepK T H kvs ks → RepK T H (kvs ++ [(kD k, y)]) (ks ++ [(k, v)])
  | [], ks, h => by
    have e : ks = [] := by simpa [RepK] using h
    subst e
    simp only [List.nil_append, RepK]
    exact ⟨_, _, _, rfl, rfl, q, rfl⟩
  | (k0, d) :: r, ks, h => by
    obtain ⟨kk, x, t, e, e2, h1, h2⟩ := by simpa only [RepK] using h
    subst e e2
    simp only [List.cons_append, RepK]
    exact ⟨_, _, _, rfl, rfl, h1, RepK.append q h2⟩
theorem RepK.put {T : Addr → Prop} {H : Hp} {k : Key} {y : PyData} {v : V} {kvs : List (PyData × PyData)} {ks : List (Key × V)} (r : RepK T H kvs ks) (q : Rep T H y v) : RepK T H (putD kvs (kD k) y) (putK ks k v) := by
  unfold putD putK
  rw [r.any k]
  split
  · exact r.map k q
  · exact r.append q
theorem RepT.any {T : Addr → Prop} {H : Hp} (k : List Key) : ∀ {kvs : List (PyData × PyData)} {ks : List (List Key × V)}, RepT T H kvs ks → (kvs.any fun p => p.1.eqv (.tuple (k.map kD))) = ks.any fun kv => decide (kv.1 = k)
  | [], ks, h => by
    have e : ks = [] := by simpa [RepT] using h
    subst e; rfl
  | (k0, d) :: r, ks, h => by
    obtain ⟨kk, x, t, e, e2, h1, h2⟩ := by simpa only [RepT] using h
    subst e e2
    have q0 : PyData.eqv (.tuple (kk.map kD)) (.tuple (k.map kD)) = decide (kk = k) := kDs_eqv kk k
    rw [List.any_cons, List.any_cons, q0, RepT.any k h2]
theorem RepT.map {T : Addr → Prop} {H : Hp} (k : List Key) {y : PyData} {v : V} (q : Rep T H y v) : ∀ {kvs : List (PyData × PyData)} {ks : List (List Key × V)}, RepT T H kvs ks → RepT T H (kvs.map fun p => if p.1.eqv (.tuple (k.map kD)) = true then (p.1, y) else p) (ks.map fun kv => if kv.1 = k then (kv.1, v) else kv)
  | [], ks, h => by
    have e : ks = [] := by simpa [RepT] using h
    subst e; simp [RepT]
  | (k0, d) :: r, ks, h => by
    obtain ⟨kk, x, t, e, e2, h1, h2⟩ := by simpa only [RepT] using h
    subst e e2
    have q0 : PyData.eqv (.tuple (kk.map kD)) (.tuple (k.map kD)) = decide (kk = k) := kDs_eqv kk k
    rw [List.map_cons, List.map_cons]
    have := RepT.map k q h2
    simp only [q0]
    by_cases z : kk = k
    · rw [if_pos (by simpa using z), if_pos z]
      simp only [RepT]; exact ⟨_, _, _, rfl, rfl, q, this⟩
    · rw [if_neg (by simpa using z), if_neg z]
      simp only [RepT]; exact ⟨_, _, _, rfl, rfl, h1, this⟩
theorem RepT.append {T : Addr → Prop} {H : Hp} {k : List Key} {y : PyData} {v : V} (q : Rep T H y v) : ∀ {kvs : List (PyData × PyData)} {ks : List (List Key × V)}, RepT T H kvs ks → RepT T H (kvs ++ [(.tuple (k.map kD), y)]) (ks ++ [(k, v)])
  | [], ks, h => by
    have e : ks = [] := by simpa [RepT] using h
    subst e
    simp only [List.nil_append, RepT]
    exact ⟨_, _, _, rfl, rfl, q, rfl⟩
  | (k0, d) :: r, ks, h => by
    obtain ⟨kk, x, t, e, e2, h1, h2⟩ := by simpa only [RepT] using h
    subst e e2
    simp only [List.cons_append, RepT]
    exact ⟨_, _, _, rfl, rfl, h1, RepT.append q h2⟩
theorem RepT.put {T : Addr → Prop} {H : Hp} {k : List Key} {y : PyData} {v : V} {kvs : List (PyData × PyData)} {ks : List (List Key × V)} (r : RepT T H kvs ks) (q : Rep T H y v) : RepT T H (putD kvs (.tuple (k.map kD)) y) (putK ks k v) := by
  unfold putD putK
  rw [r.any k]
  split
  · exact r.map k q
  · exact r.append q
/-- a fresh value's outcome -/
abbrev AnsF (T : Addr → Prop) (d : PyData) (Q : VK) (H : Hp) : Prop := ∀ p H', H p = none → Own1 (fun b => T b ∨ b = p) H' d p → Ext NoT H H' → Q (.ref p) H'
theorem mvP {T : Addr → Prop} {H : Hp} {p : Addr} {o : HO} (h : H p = none) : Mv T (fun b => T b ∨ b = p) H (upd H p o) :=
  ⟨fun a u n ha t => t.elim n fun z => (by rw [z, h] at ha; cases ha), fun a u n ha => by rw [upd_ne (ne_of_none ha h)]; exact ha⟩
theorem AnsF.lst {T : Addr → Prop} {ds : List PyData} {xs : List V} {Q : VK} {H : Hp} (a : AnsF T (.list ds) Q H) (r : RepL T H ds xs) (z : xs.length ≤ sizeLine) (p : Addr) (h : H p = none) : Q (.ref p) (upd H p (.lst xs)) :=
  a p _ h ⟨xs, upd_same, z, RepL.mv (mvP h) _ _ r⟩ (Ext.laid h)

/-! ### forms of one part -/
def fr1 : O1 → Bool
  | .rev => true
  | .dictOf => true
  | .sortSet => true
  | _ => false
def ansOf (X : Cx) (fr : Bool) (T : Addr → Prop) (d : PyData) (Q : VK) (H : Hp) : Prop := if fr = true then AnsF T d Q H else Ans X T d Q H
theorem Ans.f {X : Cx} {T : Addr → Prop} {d : PyData} {Q : VK} {H : Hp} (a : Ans X T d Q H) (dm : Dom T H) : AnsF T d Q H := fun p H' hp o e => a _ H' (o.rep (fun b => .inl) (dm p hp)) e
theorem Ans.of {X : Cx} {fr : Bool} {T : Addr → Prop} {d : PyData} {Q : VK} {H : Hp} (a : Ans X T d Q H) (dm : Dom T H) : ansOf X fr T d Q H := by
  unfold ansOf
  split
  · exact a.f dm
  · exact a
def tOp1 (X : Cx) (f : O1) (te : TE) : TE := fun σ H Q => te σ H fun v H1 => ∃ T x d, Dom T H1 ∧ Rep T H1 x v ∧ op1D f x = .ok d ∧ ansOf X (fr1 f) T d Q H1
theorem pairsD_rep {T : Addr → Prop} {H : Hp} {K : PySem.W.Frag} : ∀ {ds : List PyData} {xs : List V} {l : List (PyData × PyData)}, pairsD ds = some l → RepL T H ds xs → ∃ (ps : List Addr) (kvs : List (Key × V)), xs = ps.map V.ref ∧ Paired (fun p kv => SqT K H p [kV kv.1, kv.2]) ps kvs ∧ RepK T H l kvs ∧ kvs.length = ds.length
  | [], xs, l, h, r => by
    cases h
    rw [r.nil_inv]
    exact ⟨[], [], rfl, .nil, by simp [RepK], rfl⟩
  | d0 :: ds, xs, l, h, r => by
    obtain ⟨x, t, rfl, h1, h2⟩ := r.cons_inv
    unfold pairsD at h
    split at h
    · rename_i e; cases e
    · rename_i kd vd rr e
      cases e
      split at h
      · rename_i hk
        cases q : pairsD ds with
        | none => rw [q] at h; cases h
        | some l' =>
          rw [q] at h
          cases h
          obtain ⟨ps, kvs, rfl, hp, hr, hl⟩ := pairsD_rep q h2
          obtain ⟨a, ws, rfl, _, ha, _, rw'⟩ := h1.tuple_inv
          obtain ⟨w1, t1, rfl, r1, rw2⟩ := rw'.cons_inv
          obtain ⟨w2, t2, rfl, r2, rw3⟩ := rw2.cons_inv
          have : t2 = [] := rw3.nil_inv
          subst this
          have hkd : ∃ kk : Key, kd = kD kk ∧ w1 = kV kk := by
            cases kd with
            | int i => exact ⟨.inl i, rfl, r1.int_inv⟩
            | str i => exact ⟨.inr i, rfl, r1.str_inv.1⟩
            | _ => cases hk
          obtain ⟨kk, rfl, rfl⟩ := hkd
          refine ⟨a :: ps, (kk, w2) :: kvs, rfl, .cons (.of ha) hp, ?_, by simp [hl]⟩
          simp only [RepK]
          exact ⟨kk, w2, kvs, rfl, rfl, r2, hr⟩
      · cases h
    · cases h
theorem RepK.merge {T : Addr → Prop} {H : Hp} : ∀ {l : List (PyData × PyData)} {kvs : List (Key × V)} {l0 : List (PyData × PyData)} {ks : List (Key × V)}, RepK T H l kvs → RepK T H l0 ks → RepK T H (mergeD l0 l) (mergeK ks kvs)
  | [], kvs, l0, ks, h, q => by
    have e : kvs = [] := by simpa [RepK] using h
    subst e; exact q
  | (k0, d) :: r, kvs, l0, ks, h, q => by
    obtain ⟨kk, x, t, e, e2, h1, h2⟩ := by simpa only [RepK] using h
    subst e e2
    show RepK T H (mergeD (putD l0 (kD kk) d) r) (mergeK (putK ks kk x) t)
    exact RepK.merge h2 (q.put h1)
theorem op1_dictOf {X : Cx} (hc : X.calm = true) : CallR X (.type "dict") (fun vs H Q => ∃ T x v d, vs = [v] ∧ Dom T H ∧ Rep T H x v ∧ op1D .dictOf x = .ok d ∧ AnsF T d Q H) := by
  intro pins s σ H vs us Q I r h
  obtain ⟨T, x, v, d, rfl, dm, hx, hd, a⟩ := h
  unfold op1D at hd
  split at hd
  · rename_i h; cases h
  · rename_i ds h
    split at hd
    · rename_i l hl
      cases hd
      obtain ⟨p, xs, rfl, n, hp, z, rr⟩ := hx.list_inv
      obtain ⟨ps, kvs, rfl, hps, hr, hlen⟩ := pairsD_rep (K := X.K) hl rr
      refine call_dictP hc pins s σ H _ us Q I r ⟨p, ps, kvs, rfl, .of hp, hps, fun q hq => a q _ hq (.inl ⟨_, upd_same, ?_⟩) (Ext.laid hq)⟩
      exact RepK.mv (mvP hq) _ _ (RepK.merge hr (by simp [RepK]))
    · cases hd
  · rename_i h; cases h
  · rename_i h; cases h
  · rename_i h; cases h
  · cases hd
/-! ### text.index(x) -/
def tOp2 (X : Cx) (f : O2) (ta tb : TE) : TE := fun σ H Q => ta σ H fun v H1 => (∃ T x, Rep T H1 x v ∧ ok2 f x = true) ∧ tb σ H1 fun u H2 => rD2 X (op2D f) v u H2 Q
theorem RepL.reverse {T : Addr → Prop} {H : Hp} : ∀ {ds : List PyData} {xs : List V}, RepL T H ds xs → RepL T H ds.reverse xs.reverse
  | [], xs, h => by rw [h.nil_inv]; exact .nil
  | d :: ds, xs, h => by
    obtain ⟨y, ys, rfl, h1, h2⟩ := h.cons_inv
    rw [List.reverse_cons, List.reverse_cons]
    exact (RepL.reverse h2).append (.cons h1 .nil)
theorem op2_sindex {X : Cx} : MtR X "str.index" (fun x xs H Q => ∃ u, xs = [u] ∧ rD2 X (op2D .sindex) x u H Q) := by
  intro pins s σ H x xs v us Q I rx rs h
  obtain ⟨u, rfl, T, dx, dy, d, dm, hx, hy, hd, a⟩ := h
  unfold op2D at hd
  split at hd
  · rename_i a' b' h
    split at hd
    · rename_i i rest ho
      cases hd
      exact mt_sindex pins s σ H x [u] v us Q I rx rs ⟨a', b', i, rest, hx.str_inv.1, by rw [hy.str_inv.1], ho, a _ _ .mkInt .refl⟩
    · cases hd
  · rename_i h; cases h
  · rename_i h; cases h
  · cases hd

theorem find_at : ∀ (ns : List Int) (i : Int) (j : Nat), ns.findIdx? (fun n => decide (n = i)) = some j → ns[j]? = some i ∧ ∀ m z, m < j → ns[m]? = some z → z ≠ i
  | [], i, j, h => by cases h
  | n :: ns, i, j, h => by
    rw [List.findIdx?_cons] at h
    by_cases e : n = i
    · simp only [e, decide_true, if_true, Option.some.injEq] at h
      subst h
      exact ⟨by rw [e]; rfl, fun m z hm => absurd hm (Nat.not_lt_zero _)⟩
    · simp only [e, decide_false, Bool.false_eq_true, if_false] at h
      obtain ⟨k, hk, rfl⟩ := Option.map_eq_some_iff.mp h
      obtain ⟨h1, h2⟩ := find_at ns i k hk
      refine ⟨h1, fun m z hm hz => ?_⟩
      cases m with
      | zero => cases hz; exact e
      | succ m => exact h2 m z (by omega) hz
theorem op2_lindex {X : Cx} : MtR X "list.index" (fun x xs H Q => ∃ u, xs = [u] ∧ rD2 X (op2D .lindex) x u H Q) := by
  intro pins s σ H x xs v us Q I rx rs h
  obtain ⟨u, rfl, T, dx, dy, d, dm, hx, hy, hd, a⟩ := h
  unfold op2D at hd
  split at hd
  · rename_i h; cases h
  · rename_i xs i h
    split at hd
    · rename_i ns hns
      split at hd
      · rename_i j hj
        cases hd
        have e := allInts_some hns
        subst e
        obtain ⟨p, vs, e1, n, hp, z, r⟩ := hx.list_inv
        have ev : vs = ns.map V.int := by
          have : ∀ (ns : List Int) (vs : List V), RepL T H (ns.map PyData.int) vs → vs = ns.map V.int := by
            intro ns
            induction ns with
            | nil => intro vs h; exact h.nil_inv
            | cons m ns ih =>
              intro vs h
              obtain ⟨y, ys, rfl, h1, h2⟩ := h.cons_inv
              rw [h1.int_inv, ih ys h2]; rfl
          exact this ns vs r
        subst ev
        obtain ⟨f1, f2⟩ := find_at ns i j hj
        rw [e1] at rx
        rw [hy.int_inv] at rs
        refine mt_index pins s σ H _ [_] v us Q I rx rs ⟨p, ns.map V.int, .int i, j, .int i, rfl, rfl, .of hp, rfl, ?_, by rw [List.getElem?_map, f1]; rfl, ?_, fun m z' hm hz => ?_, a _ _ .mkInt .refl⟩
        · simp [flatV]
        · show (i == i) = true
          simp
        · rw [List.getElem?_map] at hz
          obtain ⟨w, hw, rfl⟩ := Option.map_eq_some_iff.mp hz
          show (w == i) = false
          rw [beq_eq_false_iff_ne]
          exact f2 m w hm hw
      · cases hd
    · cases hd
  · rename_i h; cases h
  · cases hd

/-! ### a dict of the module, of numbers -/
def entI (e : DictEntry) (p : Int × Int) : Bool := (match e.key with
  | .int k _ => decide (k = p.1)
  | _ => false) && ((match e.val with
  | .int v _ => decide (v = p.2)
  | _ => false) && decide (e.hash = hashInt p.1))
def entsI : List DictEntry → List (Int × Int) → Bool
  | [], [] => true
  | e :: es, p :: ps => entI e p && entsI es ps
  | _, _ => false
def distinctI : List (Int × Int) → Bool
  | [] => true
  | p :: ps => ps.all (fun q => decide (q.1 ≠ p.1)) && distinctI ps
def kdiB (K : PySem.W.Frag) (a : Addr) (kvs : List (Int × Int)) : Bool := match K.lookup a with
  | some ⟨.type c, none, .dict es _, sl⟩ => decide (c = "dict") && (decide (sl.size = 0) && (entsI es.toList kvs && distinctI kvs))
  | _ => false
theorem entsI_ok {P : Program} {w : World} : ∀ {es : List DictEntry} {kvs : List (Int × Int)}, entsI es kvs = true → ∃ vs : List (Key × Value), Pairs (mixKind P w) es vs ∧ (∀ e ∈ es, ∃ k, (mixKind P w).is k e.key = true ∧ e.hash = (mixKind P w).hash k) ∧ vs.map (·.1) = kvs.map (fun p => Sum.inl p.1) ∧
    ∀ k : Int, ∀ p, kvs.find? (fun p => decide (p.1 = k)) = some p → ∃ t, valueAt vs (Sum.inl k) = some (.int p.2 t)
  | [], [], _ => ⟨[], .nil, fun _ h => (nomatch h), rfl, fun k p h => (nomatch h)⟩
  | [], _ :: _, h => nomatch h
  | _ :: _, [], h => nomatch h
  | e :: es, q :: kvs, h => by
    simp only [entsI, Bool.and_eq_true] at h
    obtain ⟨h1, h2⟩ := h
    obtain ⟨vs, a1, a2, a3, a4⟩ := entsI_ok (P := P) (w := w) h2
    unfold entI at h1
    simp only [Bool.and_eq_true, decide_eq_true_eq] at h1
    obtain ⟨b1, b2, b3⟩ := h1
    obtain ⟨hh, ek, evl⟩ := e
    cases ek with
    | int kk tk =>
      have b1' : kk = q.1 := by simpa using b1
      cases evl with
      | int vv tv =>
        have b2' : vv = q.2 := by simpa using b2
        subst b1' b2'
        have b3 : hh = hashInt q.1 := b3
        refine ⟨(Sum.inl q.1, .int q.2 tv) :: vs, .cons (mixKind_int P w _ _) rfl a1, fun e' he' => ?_, by simp [a3], fun k p hp => ?_⟩
        · rcases List.mem_cons.mp he' with rfl | he'
          · exact ⟨Sum.inl q.1, mixKind_int P w _ _, b3⟩
          · exact a2 e' he'
        · rw [List.find?_cons] at hp
          by_cases hk : q.1 = k
          · rw [decide_eq_true hk] at hp
            cases hp
            subst hk
            exact ⟨tv, by simp [valueAt]⟩
          · rw [decide_eq_false hk] at hp
            obtain ⟨t, ht⟩ := a4 k p hp
            refine ⟨t, ?_⟩
            unfold valueAt at ht ⊢
            rw [List.find?_cons]
            have : decide ((Sum.inl q.1 : Key) = Sum.inl k) = false := decide_eq_false fun z => hk (Sum.inl.inj z)
            rw [this]
            exact ht
      | _ => cases b2
    | _ => cases b1
theorem distinctI_ok : ∀ {kvs : List (Int × Int)}, distinctI kvs = true → (kvs.map (fun p => (Sum.inl p.1 : Key))).Nodup
  | [], _ => .nil
  | p :: ps, h => by
    simp only [distinctI, Bool.and_eq_true, List.all_eq_true, decide_eq_true_eq] at h
    rw [List.map_cons]
    refine List.nodup_cons.mpr ⟨fun z => ?_, distinctI_ok h.2⟩
    obtain ⟨q, hq, e⟩ := List.mem_map.mp z
    exact h.1 q hq (Sum.inl.inj e)
theorem kdiB_ok {K : PySem.W.Frag} {a : Addr} {kvs : List (Int × Int)} (h : kdiB K a kvs = true) {P : Program} {w : World} {hp : Heap} (X : K.In hp) : ∃ vs : List (Key × Value), hp.DictOf (mixKind P w) a vs ∧ ∀ k : Int, ∀ p, kvs.find? (fun p => decide (p.1 = k)) = some p → ∃ t, valueAt vs (Sum.inl k) = some (.int p.2 t) := by
  unfold kdiB at h
  split at h
  · rename_i c es n sl hl
    simp only [Bool.and_eq_true, decide_eq_true_eq] at h
    obtain ⟨rfl, h2, h3, h4⟩ := h
    obtain ⟨vs, a1, a2, a3, a4⟩ := entsI_ok (P := P) (w := w) h3
    refine ⟨vs, ⟨_, es, n, X _ _ hl, ⟨rfl, rfl, Array.eq_empty_of_size_eq_zero h2⟩, rfl, fun e he => a2 e (by simpa using he), a1, by rw [a3]; exact distinctI_ok h4⟩, a4⟩
  · cases h
def rIxI (X : Cx) (kvs : List (Int × Int)) : R2 := fun x y H Q => ∃ a T d r, x = .ref a ∧ kdiB X.K a kvs = true ∧ Rep T H d y ∧ subGD kvs d = .ok r ∧ Ans X T r Q H
theorem ix_kdi {X : Cx} {kvs : List (Int × Int)} : IxR X (rIxI X kvs) := by
  intro value slice pins s σ H x y v u Q I rx ry h hs
  obtain ⟨a, T, d, r, rfl, hk, hd, hr, an⟩ := h
  obtain rfl : v = Value.ref a := rx
  unfold subGD at hr
  split at hr
  · split at hr
    · rename_i p hp
      cases hr
      have := hd.int_inv
      subst this
      obtain ⟨t, rfl⟩ := ry
      obtain ⟨vs, dd, hv⟩ := kdiB_ok hk (P := X.prog) (w := X.w) I.kIn
      obtain ⟨t2, ht2⟩ := hv _ p hp
      exact tail_any dd.typeIs PySem.F.slot_dict_getitem.lookup (wpAny_getItem_of (mixKind_int _ _ _ _) dd.mapOf ht2 ⟨.int p.2, H, I.tok _, ⟨_, rfl⟩, an _ _ .mkInt .refl⟩) hs
    · cases hr
  · cases hr
end Mir

set_option Elab.async false
set_option linter.all false
set_option maxRecDepth 100000
set_option maxHeartbeats 4000000
/-! Mir, part S: sets of numbers and texts, made of lists. -/
namespace Mir
open PySem PySem.Spec PyProof.Rows L2

/-- each key once, as first met -/
def onceK : List Key → List Key → List Key
  | acc, [] => acc
  | acc, k :: ks => onceK (if acc.any (fun x => decide (x = k)) = true then acc else acc ++ [k]) ks
theorem onceK_len : ∀ (ks acc : List Key), (onceK acc ks).length ≤ acc.length + ks.length
  | [], acc => Nat.le_refl _
  | k :: ks, acc => by
    have h := onceK_len ks (if acc.any (fun x => decide (x = k)) = true then acc else acc ++ [k])
    show (onceK (if acc.any (fun x => decide (x = k)) = true then acc else acc ++ [k]) ks).length ≤ _
    refine Nat.le_trans h ?_
    split <;> simp <;> omega
section
variable {P : Program} {w : World} {A : Around}
theorem setOf_as {h : Heap} {a : Addr} {S S' : Key → Bool} {n n' : Nat} (x : h.SetOf (mixKind P w) a S n) (e : ∀ k, S k = S' k) (m : n = n') : h.SetOf (mixKind P w) a S' n' := by
  obtain rfl : S = S' := funext e
  subst m
  exact x
/-- the keys that are left, put into the set -/
theorem setLoop {R : Result → Shared → Prop} {I : Addr} {fp wr : List Addr} {G : Array GenState → Array GenState → Prop} {n : Nat} {C : Nat → Value → Prop} {St : Nat → Shared → Prop} (W : WalksS P w A.in1 I fp wr G n C St) (a : Addr) (ha : a ∉ fp) :
    ∀ (ks : List Key) (i : Nat) (acc : List Key) (s : Shared), i + ks.length = n → (∀ j k v, ks[j]? = some k → C (i + j) v → keyIs k v = true) → acc.length + ks.length + 1 < scanBound → St i s →
      s.heap.SetOf (mixKind P w) a (fun k => acc.any fun x => decide (x = k)) acc.length →
      (∀ s', Moved (a :: wr) G s s' → s'.heap.SetOf (mixKind P w) a (fun k => (onceK acc ks).any fun x => decide (x = k)) (onceK acc ks).length → R (.ok (.ret .none)) s') →
      codeAny (model P w) A (.builtin "set.update.loop" ⟨[.ref a, .ref I], []⟩) R s := by
  have naw : a ∉ wr := fun z => ha (W.sub _ z)
  have sub : ∀ b ∈ wr, b ∈ a :: wr := fun b hb => .tail _ hb
  have kept : ∀ {s s' : Shared} {S : Key → Bool} {m : Nat}, Moved wr G s s' → s.heap.SetOf (mixKind P w) a S m → s'.heap.SetOf (mixKind P w) a S m := fun mv ⟨o, es, ep, t, ho, r⟩ => ⟨o, es, ep, t, mv.heap a _ naw ho, r⟩
  intro ks
  induction ks with
  | nil =>
    intro i acc s hn _ _ hst hS hR
    have hin : i = n := by simpa using hn
    subst hin
    refine codeAny_builtin PyProof.Rows.F.entry_set_update_loop (?_ : wpAny _ (A.under _) _ _ _ _)
    rw [Around.under_plainId PyProof.Rows.F.plain_set_update_loop _]
    refine wpAny_bind (W.done s _ _ hst fun s' mv => ?_)
    exact wpAny_pure (hR s' (mv.mono sub) (kept mv hS))
  | cons k ks ih =>
    intro i acc s hn hC hb hst hS hR
    rw [List.length_cons] at hn hb
    refine codeAny_builtin PyProof.Rows.F.entry_set_update_loop (?_ : wpAny _ (A.under _) _ _ _ _)
    rw [Around.under_plainId PyProof.Rows.F.plain_set_update_loop _]
    refine wpAny_bind (W.item i s _ _ (by omega) hst fun v s' hv hst' mv => ?_)
    have hk : keyIs k v = true := hC 0 k v rfl hv
    have hsc : v.scannable = true := by
      rcases keyIs_shape hk with ⟨j, t, _, rfl⟩ | ⟨x, t, _, rfl⟩ <;> rfl
    have hS' := kept mv hS
    show wpAny _ A.in1 (holding [v] (setAdd a v) >>= _) _ _ s'
    refine wpAny_bind (wpAny_holding ?_)
    unfold setAdd
    refine wpAny_holding (wpAny_bind ((mixKind P w).pyHash (k := k) hk ?_))
    refine wpAny_setAddHashed_of (knd := mixKind P w) (s := { s' with toks := s'.toks + 1 }) hk hsc hS' (by omega) fun h' hsb hS2 => ?_
    have hacc : h'.SetOf (mixKind P w) a (fun k' => (if acc.any (fun x => decide (x = k)) = true then acc else acc ++ [k]).any fun x => decide (x = k')) (if acc.any (fun x => decide (x = k)) = true then acc else acc ++ [k]).length := by
      refine setOf_as hS2 (fun k' => ?_) ?_
      · split
        · rename_i hin
          by_cases e : k' = k
          · subst e; rw [hin]; simp
          · simp [e]
        · rw [List.any_append]
          by_cases e : k' = k
          · subst e; simp
          · have e' : ¬ k = k' := fun z => e z.symm
            simp [e, e']
      · split
        · rfl
        · rw [List.length_append]; rfl
    refine wpAny_pure ⟨plainId_quiet PyProof.Rows.F.plain_set_update_loop _, ih (i + 1) _ _ (by omega) (fun j k' v' hj hc => hC (j + 1) k' v' hj (by rw [show i + (j + 1) = i + 1 + j by omega]; exact hc)) ?_ (W.frame _ s' _ _ hst' (Nat.le_succ _) fun b hbf o e => ?_) hacc fun s2 mv2 hS3 => ?_⟩
    · split
      · omega
      · rw [List.length_append]; show acc.length + 1 + ks.length + 1 < _; omega
    · rw [hsb.2 b fun z => ha (z ▸ hbf)]; exact e
    · refine hR s2 (Moved.trans W.gtrans ((mv.mono sub).then_heap (Nat.le_succ _) fun b o hbn e => ?_) mv2) hS3
      rw [hsb.2 b fun z => hbn (by rw [z]; exact .head _)]; exact e
variable {E : Value → Shared → Prop} {s : Shared}
theorem call_set_keys {l : Addr} {its : List Value} {ks : List Key} {Q : Value → Shared → Prop} (hh : A.handled = none) (hl : s.heap.IsList l its.toArray) (hk : ∀ (j : Nat) (k : Key) (v : Value), ks[j]? = some k → its[j]? = some v → keyIs k v = true) (hlen : its.length = ks.length) (hb : ks.length + 1 < scanBound)
    (h : ∀ (h' : Heap) (tk : Nat), h'.SetOf (mixKind P w) s.heap.objs.size (fun k => (onceK [] ks).any fun x => decide (x = k)) (onceK [] ks).length → (∀ b o, b < s.heap.objs.size → s.heap.get? b = some o → h'.get? b = some o) → Q (.ref s.heap.objs.size) { s with heap := h', toks := tk }) :
    wpAny (model P w) A (call (.type "set") [.ref l]) Q E s := by
  obtain ⟨cc, cs, hmro⟩ := PySem.F.called_set.mro
  have m1 := PySem.F.called_set.made
  have m2 := PySem.F.called_set.sub
  refine wpAny_call (codeAny_of_tree (?_ : wpAny _ _ (callAny (.type "set") _) _ _ _))
  refine wpAny_pure ⟨Code.quiet_builtin _ (by decide +kernel), codeAny_builtin PySem.F.entry_type_call ?_⟩
  rw [Around.under_plain (weight_type_call_type "set" [.ref l] []) rfl]
  have m3 := PySem.F.called_set.notType
  have m4 := PySem.F.called_set.canCreate
  have m5 := PySem.F.typeCall_set_1 (.ref l)
  repeat (any_goals (first | assumption | wp_step))
  refine codeAny_mono (code_set_new_1 (.ref l) (E := E) (Q₁ := fun ob s1 => ∃ led : Bool, ob = .ref s.heap.objs.size ∧ s1 = { s with heap := s.heap.push { cls := .type "set", dict := none, data := .set #[] 0 (.fresh 0 0 led) } }) fun led => ⟨led, rfl, rfl⟩) fun r s1 hr => ?_
  cases r with
  | error e => exact hr
  | ok fl =>
    cases fl with
    | ret ob =>
      obtain ⟨led, rfl, rfl⟩ := hr
      have at0 : (s.heap.push { cls := .type "set", dict := none, data := .set #[] 0 (.fresh 0 0 led) }).get? s.heap.objs.size = some { cls := .type "set", dict := none, data := .set #[] 0 (.fresh 0 0 led) } := Heap.get?_push_size _ rfl
      have ty0 : Shared.TypeIs { s with heap := s.heap.push { cls := .type "set", dict := none, data := .set #[] 0 (.fresh 0 0 led) } } (.ref s.heap.objs.size) "set" := ⟨_, at0, rfl⟩
      have i1 := PySem.F.called_set.init.lookup
      have i2 := PySem.F.called_set.init.bind (.ref s.heap.objs.size)
      repeat (any_goals (first | assumption | wp_step))
      refine codeAny_mono (codeAny_call_builtin (R := wants (fun r s2 => r = .none ∧ ∃ h' tk, s2 = { s with heap := h', toks := tk } ∧ h'.SetOf (mixKind P w) s.heap.objs.size (fun k => (onceK [] ks).any fun x => decide (x = k)) (onceK [] ks).length ∧
        (∀ b o, b < s.heap.objs.size → s.heap.get? b = some o → h'.get? b = some o)) E) PySem.F.called_set.init.plain PySem.F.entry_set_init (check_set_init_1 ty0 ?_)) fun r2 s2 hr2 => ?_
      · obtain ⟨⟨oc, od, dt, sl⟩, ho, hc, nl, hd⟩ := hl
        simp only at hc hd
        subst hc hd
        have ho1 : (s.heap.push { cls := .type "set", dict := none, data := .set #[] 0 (.fresh 0 0 led) }).get? l = some { cls := .type "list", dict := od, data := .seq its.toArray nl, slots := sl } := Heap.get?_push_of_some _ ho
        have n1 := PySem.F.sub_list_set
        have n2 := PySem.F.sub_list_frozenset
        have n3 : (Value.type "list" == Value.type "dict") = false := by decide
        have hl1 : (s.heap.push { cls := .type "set", dict := none, data := .set #[] 0 (.fresh 0 0 led) }).IsList l its.toArray := ⟨_, ho1, rfl, nl, rfl⟩
        unfold Builtin.«set.__init__» noKeywords Builtin.Frozenset.updateFrom
        generalize hPI : pyIter = PI
        wp_walk
        subst hPI
        refine wpAny_pyIter_list hl1 (wpAny_bind (wpAny_runValue ?_))
        have lS : l < s.heap.objs.size := Heap.lt_size ho
        have h3 : A.in1.in1.in1.handled = none := by simp [hh]
        have neI : l ≠ (s.heap.push { cls := .type "set", dict := none, data := .set #[] 0 (.fresh 0 0 led) }).objs.size := by
          rw [Heap.size_push]; exact Nat.ne_of_lt (Nat.lt_succ_of_lt lS)
        have notin : s.heap.objs.size ∉ [(s.heap.push { cls := .type "set", dict := none, data := .set #[] 0 (.fresh 0 0 led) }).objs.size, l] := by
          rw [Heap.size_push]
          intro z
          rcases List.mem_cons.mp z with z | z
          · exact Nat.ne_of_lt (Nat.lt_succ_self _) z
          · exact Nat.ne_of_gt lS (List.mem_singleton.mp z)
        refine setLoop (W := (Walks.list h3 _ l neI its.toArray).toS) s.heap.objs.size notin ks 0 [] _ (by simp [hlen]) (fun j k v hj hv => hk j k v hj (by simpa using hv)) (by simpa using hb) ⟨⟨_, Heap.get?_push_size _ rfl, rfl, rfl⟩, hl1.push _⟩ ?_ ?_
        · have at1 : ((s.heap.push { cls := .type "set", dict := none, data := .set #[] 0 (.fresh 0 0 led) }).push { cls := .type "list_iterator", data := .fields #[.ref l, .int 0 0] }).get? s.heap.objs.size
              = some { cls := .type "set", dict := none, data := .set #[] 0 (.fresh 0 0 led) } := Heap.get?_push_of_some _ at0
          letI : BEq Key := instBEqOfDecidableEq
          haveI : LawfulBEq Key := inferInstance
          exact setOf_as ((PyProof.Rows.setObjOf_fresh (knd := mixKind P w) led).setOf at1 (by unfold scanBound; omega)) (fun _ => rfl) rfl
        · intro s' mv hS'
          obtain ⟨h', g', d', tk', os'⟩ := s'
          obtain rfl : g' = s.gens := mv.gens
          obtain rfl : d' = s.drawn := mv.drawn
          obtain rfl : os' = s.os := mv.os
          refine wpAny_pure (wpAny_pure ⟨rfl, h', tk', rfl, hS', fun b o hb' e => ?_⟩)
          refine mv.heap b o (fun z => ?_) (Heap.get?_push_of_some _ (Heap.get?_push_of_some _ e))
          rcases List.mem_cons.mp z with z | z
          · exact Nat.ne_of_lt hb' z
          · rw [List.mem_singleton, Heap.size_push] at z
            exact Nat.ne_of_lt (Nat.lt_succ_of_lt hb') z
      · cases r2 with
        | error e => exact hr2
        | ok fl2 =>
          cases fl2 with
          | ret r =>
            obtain ⟨rfl, h', tk, rfl, hS', hk'⟩ := hr2
            repeat (any_goals (first | assumption | wp_step))
            exact h _ _ hS' hk'
          | _ => exact hr2.elim
    | _ => exact hr.elim
end
end Mir

set_option Elab.async false
set_option linter.all false
set_option maxRecDepth 100000
set_option maxHeartbeats 4000000
/-! Mir, part F: expressions. -/
namespace Mir
open PySem PySem.Spec PyProof.Rows L2

/-! ### operations raise nothing -/
theorem binD_nx {op : Operator} {x y : PyData} {n : Str} {l : List PyData} (h : binD op x y = .exc n l) : False := by
  unfold binD at h
  split at h <;> first | (cases h; done) | (split at h <;> cases h)
theorem cmpD_nx {op : CmpOp} {x y : PyData} {n : Str} {l : List PyData} (h : cmpD op x y = .exc n l) : False := by
  unfold cmpD at h
  split at h <;> first | (cases h; done) | (split at h <;> cases h)
theorem optR_nx {α : Type} {o : Option α} {n : Str} {l : List PyData} (h : optR o = .exc n l) : False := by cases o <;> cases h
theorem intR_nx {x : PyData} {n : Str} {l : List PyData} (h : intR x = .exc n l) : False := by unfold intR at h; split at h <;> cases h
theorem itemsR_nx {x : PyData} {n : Str} {l : List PyData} (h : itemsR x = .exc n l) : False := by unfold itemsR at h; split at h <;> cases h
theorem bind_nx {α β : Type} {r : R α} {f : α → R β} {n : Str} {l : List PyData} (h : r.bind f = .exc n l) : (∃ a, r = .ok a ∧ f a = .exc n l) ∨ r = .exc n l := by
  cases r with
  | ok a => exact .inl ⟨a, rfl, h⟩
  | exc x l => exact .inr (by cases h; rfl)
  | bad => cases h
theorem subD_nx {x y : PyData} {n : Str} {l : List PyData} (h : subD x y = .exc n l) : False := by
  unfold subD at h
  split at h
  · exact optR_nx h
  · exact optR_nx h
  · exact optR_nx h
  · split at h
    · exact optR_nx h
    · cases h
  · cases h
theorem cutX_nx {x : PyData} {a b : Option Int} {n : Str} {l : List PyData} (h : cutX x a b = .exc n l) : False := by
  unfold cutX at h
  split at h <;> cases h
theorem one_nx {f : PyData → R PyData} {ds : List PyData} {n : Str} {l : List PyData} (h : one f ds = .exc n l) (q : ∀ x, f x ≠ .exc n l) : False := by
  unfold one at h
  split at h
  · exact q _ h
  · cases h
theorem two_nx {f : PyData → PyData → R PyData} {ds : List PyData} {n : Str} {l : List PyData} (h : two f ds = .exc n l) (q : ∀ x y, f x y ≠ .exc n l) : False := by
  unfold two at h
  split at h
  · exact q _ _ h
  · cases h
theorem items_then {x : PyData} {f : List PyData → R PyData} {n : Str} {l : List PyData} (h : (itemsR x).bind f = .exc n l) (q : ∀ xs, f xs ≠ .exc n l) : False := by
  rcases bind_nx h with ⟨a, _, h⟩ | h
  · exact q _ h
  · exact itemsR_nx h
theorem int_then {α : Type} {x : PyData} {f : Int → R α} {n : Str} {l : List PyData} (h : (intR x).bind f = .exc n l) (q : ∀ i, f i ≠ .exc n l) : False := by
  rcases bind_nx h with ⟨a, _, h⟩ | h
  · exact q _ h
  · exact intR_nx h
theorem bltD_nx {f : B} {ds : List PyData} {n : Str} {l : List PyData} (h : bltD f ds = .exc n l) : False := by
  cases f with
  | len => exact one_nx h fun x h => by unfold lenD at h; split at h <;> cases h
  | tuple_ => exact one_nx h fun x h => items_then h fun xs h => nomatch h
  | list_ => exact one_nx h fun x h => items_then h fun xs h => nomatch h
  | sorted => exact one_nx h fun x h => by unfold sortedD at h; split at h <;> first | (cases h; done) | (split at h <;> first | (cases h; done) | (split at h <;> cases h))
  | all_ => exact one_nx h fun x h => by unfold allD at h; split at h <;> first | (cases h; done) | (split at h <;> cases h)
  | any_ => exact one_nx h fun x h => by unfold anyD at h; split at h <;> first | (cases h; done) | (split at h <;> cases h)
  | int_ => exact one_nx h fun x h => by unfold intD at h; split at h <;> first | (cases h; done) | (split at h <;> first | (cases h; done) | (split at h <;> cases h))
  | sum => exact one_nx h fun x h => by unfold sumD at h; split at h <;> first | (cases h; done) | (split at h <;> cases h)
  | min1 => exact one_nx h fun x h => items_then h fun xs h => by unfold minR at h; split at h <;> first | (cases h; done) | (split at h <;> cases h)
  | max1 => exact one_nx h fun x h => items_then h fun xs h => by unfold maxR at h; split at h <;> first | (cases h; done) | (split at h <;> cases h)
  | min2 => exact two_nx h fun x y h => int_then h fun i h => int_then h fun j h => nomatch h
  | max2 => exact two_nx h fun x y h => int_then h fun i h => int_then h fun j h => nomatch h
  | abs => exact one_nx h fun x h => int_then h fun i h => nomatch h
  | str_ => exact one_nx h fun x h => int_then h fun i h => by split at h <;> cases h
  | _ => cases h

/-! ### forms of the text -/
def okE : Expr → Bool
  | .Starred .. => false
  | .Set .. => false
  | .Slice .. => false
  | _ => true
theorem star_cons {e : Expr} (h : okE e = true) (es : List Expr) (env : PySem.Env) : starEach (e :: es) env = (false, eval e env) :: starEach es env := by cases e <;> first | rfl | cases h
theorem mark_ok {e : Expr} (h : okE e = true) (op : CmpOp) : behindInMarks op e = false := by cases e <;> first | rfl | cases h
theorem ix_ok {e : Expr} (h : okE e = true) : PlainIx e := by cases e <;> first | (intro o i; rfl) | cases h
theorem fold_ok {e : Expr} (h : okE e = true) (env : PySem.Env) : ∀ x, foldedSetIterable e env x = pure x := by cases e <;> first | (intro x; rfl) | cases h
theorem back_ok (pos : Pos) (env : PySem.Env) : ∀ {es : List Expr}, es.all okE = true → (backTo pos (starEach es env)).any (·.1) = false
  | [], _ => rfl
  | e :: es, h => by
    rw [List.all_cons, Bool.and_eq_true] at h
    rw [star_cons h.1]
    show (false || (backTo pos (starEach es env)).any (·.1)) = false
    rw [back_ok pos env h.2]; rfl
/-- its test is its value's truth -/
def plainT : Expr → Bool
  | .UnaryOp .Not _ _ => false
  | .BoolOp .. => false
  | .IfExp .. => false
  | .Compare .. => false
  | _ => true
theorem plain_test {e : Expr} (h : plainT e = true) (env : PySem.Env) (whole : Sem Value) : isTrue e env whole = (do let v ← whole; standAt e.pos; holding [v] (PySem.truthy v)) := by
  cases e <;> first | rfl | (cases h; done) | (rename_i op _ _; cases op <;> first | rfl | cases h)

/-! ### the context -/
structure XW (X : Cx) (N : List Str) (sp : Scope) : Prop where
  n : X.N = N
  nd : N.Nodup
  sc : X.env.scope = sp
  calm : X.calm = true
  room : X.A.units + 200 < cLine
section
variable {S : Type} {X : Cx} {k : SK S} {T : Addr → Prop} {σ : L2.St} {H : Hp} {ρ : Env} {st : S} {W : WX} {c a b : E S} {e ea eb : Expr} {pos : Pos}
theorem ST.of (h : SE X k c e) (p : plainT e = true) : ST X k c e := fun T ρ st σ H Q W n o t post pins s I => by
  refine isTrue_plain ?_ (plain_test p X.env _)
  refine thn (h T ρ st σ H (fun v H' => ∃ T d, Rep T H' d v ∧ Q (truthy d) H') W n o t ?_ pins s I) fun v s1 ⟨x, H1, I1, r1, q⟩ => tru_D pins s1 σ H1 x v _ I1 r1 q
  unfold PostT at post
  unfold PostE
  cases hr : ev c ρ st with
  | ok a => rw [hr] at post; exact fun v H' r e k' => ⟨T, a.1, r, post H' e k'⟩
  | exc x l => rw [hr] at post; exact post
  | bad => rw [hr] at post; exact post
/-- an outcome that raises nothing is there -/
theorem PostE.there {r : R PyData} {Q : VK} (p : PostE X k T σ H (lft r st) Q W) (nx : ∀ n l, r ≠ .exc n l) : ∃ d, r = .ok d ∧ ∀ v H', Rep T H' d v → Ext k.loc H H' → k.rel st H' → Q v H' := by
  cases r with
  | ok d => exact ⟨d, rfl, p⟩
  | exc x l => exact (nx _ _ rfl).elim
  | bad => exact p.elim
theorem PostE.ret {d : PyData} {Q : VK} (p : PostE X k T σ H (ret d st) Q W) : ∀ v H', Rep T H' d v → Ext k.loc H H' → k.rel st H' → Q v H' := p
theorem Ext.of_no {T : Addr → Prop} {H H' : Hp} (e : Ext NoT H H') : Ext T H H' := fun a o _ h => e a o id h
theorem Ok.dom' (o : Ok X k T st H) : Dom T H := fun p h => o.none h
theorem Ok.relNo (o : Ok X k T st H) {H' : Hp} (e : Ext NoT H H') : k.rel st H' := k.keep st H H' o.rel fun a h => by
  obtain ⟨xs, q⟩ := k.there _ _ a o.rel h
  rw [e a _ id q, q]

theorem se_v {i : Nat} {x : Str} (hN : X.N[i]? = some x) (hv : Vis X.env.scope x) (hd : (x == ("__debug__" : Str)) = false) (hcd : (x == ("__classdict__" : Str)) = false) : SE X k (.v i) (.Name x pos) := fun T ρ st σ H Q W n o t p => by
  obtain ⟨d, hg, q⟩ := PostE.there (r := getV ρ i) p fun n l h => by unfold getV at h; split at h <;> cases h
  unfold getV at hg
  split at hg
  · rename_i d' e
    cases hg
    obtain ⟨v, e1, e2⟩ := n.v i (by simp [fv]) _ e
    exact (pe_var hN hv hd hcd).w ⟨v, e1, q v H e2 .refl o.rel⟩
  · cases hg
theorem se_int {i : Int} {j : Nat} : SE X k (.int i) (.Constant (.int i) j pos) := fun T ρ st σ H Q W n o t p => pe_int.w (PostE.ret p _ _ .mkInt .refl o.rel)
theorem se_bl {i : Bool} {j : Nat} : SE X k (.bl i) (.Constant (.bool i) j pos) := fun T ρ st σ H Q W n o t p => pe_bl.w (PostE.ret p _ _ .mkBool .refl o.rel)
theorem se_non {j : Nat} : SE X k .non (.Constant .none j pos) := fun T ρ st σ H Q W n o t p => pe_non.w (PostE.ret p _ _ .mkNone .refl o.rel)
theorem se_str {x : Str} {j : Nat} : SE X k (.str x) (.Constant (.str x) j pos) := fun T ρ st σ H Q W n o t p => by
  simp only [ev] at p
  split at p
  · rename_i z
    exact pe_str.w (PostE.ret p _ _ (.mkStr z) .refl o.rel)
  · exact p.elim
/-- a constant of the module -/
def GlobOk (mg : Str → Option Value) (x : Str) (d : PyData) : Prop := ∃ u v, mg x = some u ∧ RelV v u ∧ ∀ (T : Addr → Prop) (H : Hp), Rep T H d v
theorem se_glob {x : Str} {d : PyData} (hg : Gl X x) (hd : (x == ("__debug__" : Str)) = false) (h : GlobOk X.mg x d) : SE X k (.glob x d) (.Name x pos) := fun T ρ st σ H Q W n o t p => by
  obtain ⟨u, v, hm, r, rep⟩ := h
  exact (pe_glob hg hm r hd).w (PostE.ret p _ _ (rep T H) .refl o.rel)
theorem EnvR.left {L L' : List Nat} (n : EnvR X k T (L ++ L') ρ σ H) : EnvR X k T L ρ σ H := n.sub fun i h => List.mem_append_left _ h
theorem EnvR.right {L L' : List Nat} (n : EnvR X k T (L ++ L') ρ σ H) : EnvR X k T L' ρ σ H := n.sub fun i h => List.mem_append_right _ h
/-- two parts, an operation of both -/
theorem two_of (ha : SE X k a ea) (hb : SE X k b eb) {g : PyData → PyData → R PyData} (nx : ∀ x y n l, g x y ≠ .exc n l) {Q : VK} (n1 : EnvR X k T (fv a) ρ σ H) (n2 : EnvR X k T (fv b) ρ σ H) (o : Ok X k T st H) (t : Takes X W)
    (p : PostE X k T σ H (bnd (ev a ρ) (fun x => bnd (ev b ρ) fun y => lft (g x y)) st) Q W) : wE X ea σ H fun v H1 => wE X eb σ H1 fun u H2 => rD2 X g v u H2 Q := by
  refine ha.then n1 o t p fun x st1 v H1 r1 e1 o1 p1 => ?_
  refine hb.then (n2.next (o.extT e1)) o1 t p1 fun y st2 u H2 r2 e2 o2 p2 => ?_
  obtain ⟨d, hd, q⟩ := p2.there (nx _ _)
  exact ⟨T, x, y, d, o2.dom', r1.ext (o1.extT e2), r2, hd, fun w H' rw' e' => q w H' rw' (.of_no e') (o2.relNo e')⟩
theorem se_bin {op : Operator} (ha : SE X k a ea) (hb : SE X k b eb) : SE X k (.bin op a b) (.BinOp ea op eb pos) := fun T ρ st σ H Q W n o t p =>
  (pe_op (op_binD op) pe_w pe_w).w (two_of ha hb (fun x y n l => binD_nx) n.left n.right o t p)
theorem se_cmp {op : CmpOp} (w : X.A.units + 200 < cLine) (ha : SE X k a ea) (hb : SE X k b eb) (hk : okE eb = true) : SE X k (.cmp op a b) (.Compare ea [op] [eb] pos) := fun T ρ st σ H Q W n o t p =>
  (pe_cmpR (op_cmpD (by omega) op) pe_w pe_w (mark_ok hk op)).w (two_of ha hb (fun x y n l => cmpD_nx) n.left n.right o t p)
theorem cmpD_bool {op : CmpOp} {x y d : PyData} (h : cmpD op x y = .ok d) : ∃ b, d = .bool b := by
  unfold cmpD at h
  split at h <;> first | (cases h; exact ⟨_, rfl⟩) | (cases h; done) | (split at h <;> first | (cases h; exact ⟨_, rfl⟩) | (cases h; done))
/-- .. as a test -/
theorem st_cmp {op : CmpOp} (w : X.A.units + 200 < cLine) (ha : SE X k a ea) (hb : SE X k b eb) (hk : okE eb = true) : ST X k (.cmp op a b) (.Compare ea [op] [eb] pos) := fun T ρ st σ H Q W n o t p => by
  refine (pt_cmpR (op_cmpD (by omega) op) pe_w pe_w (mark_ok hk op)).w ?_
  show wE X ea σ H fun v H1 => wE X eb σ H1 fun u H2 => rD2 X (cmpD op) v u H2 fun x H' => ∃ c, x = .bl c ∧ Q c H'
  refine two_of (W := W) ha hb (fun x y n l => cmpD_nx) n.left n.right o t ?_
  have e : ev (.cmp op a b) ρ st = bnd (ev a ρ) (fun x => bnd (ev b ρ) fun y => lft (cmpD op x y)) st := rfl
  rw [← e]
  unfold PostT at p
  unfold PostE
  cases hr : ev (.cmp op a b) ρ st with
  | ok z =>
    rw [hr] at p
    obtain ⟨d, st'⟩ := z
    have hb : ∃ c, d = .bool c := by
      rw [e] at hr
      unfold bnd at hr
      obtain ⟨⟨x1, s1⟩, _, h2⟩ := bind_ok hr
      obtain ⟨⟨x2, s2⟩, _, h3⟩ := bind_ok h2
      unfold lft at h3
      obtain ⟨z, h4, h5⟩ := bind_ok h3
      cases h5
      exact cmpD_bool h4
    obtain ⟨c, rfl⟩ := hb
    exact fun v H' r e k' => ⟨c, r.bool_inv, p H' e k'⟩
  | exc x l => rw [hr] at p; exact p
  | bad => rw [hr] at p; exact p
theorem se_neg (ha : SE X k a ea) : SE X k (.neg a) (.UnaryOp .USub ea pos) := fun T ρ st σ H Q W n o t p => by
  refine (pe_un un_neg pe_w).w ?_
  refine ha.then n o t p fun x st1 v H1 r1 e1 o1 p1 => ?_
  obtain ⟨d, hd, q⟩ := p1.there fun n l h => int_then h fun i h => nomatch h
  obtain ⟨i, hi, hd⟩ := bind_ok hd
  cases hd
  rw [intR_ok hi] at r1
  exact ⟨i, r1.int_inv, q _ _ .mkInt .refl o1.rel⟩
theorem st_not (ha : ST X k a ea) : ST X k (.not_ a) (.UnaryOp .Not ea pos) := fun T ρ st σ H Q W n o t p => by
  refine (pt_not pt_w).w ?_
  exact ha.thenT n o t p fun d st' H' e o' p' => p' H' .refl o'.rel
theorem se_not (ha : SE X k a ea) : SE X k (.not_ a) (.UnaryOp .Not ea pos) := fun T ρ st σ H Q W n o t p pins s I => by
  refine UnaryOp_ (thn ((ha.then (Q := fun v H' => ∃ T d, Rep T H' d v ∧ Q (.bl (!truthy d)) H') n o t p fun d st' v H' r e o' p' => ⟨T, d, r, p' _ _ .mkBool .refl o'.rel⟩) pins s I) fun v s1 ⟨x, H1, I1, r1, q⟩ => ?_)
  obtain ⟨T', d, rep, q⟩ := q
  exact not_of (thn (tru_D pins s1 σ H1 x v (fun c H2 => Q (.bl (!c)) H2) I1 r1 ⟨T', d, rep, q⟩) fun c s2 ⟨H2, I2, q2⟩ => ⟨.bl (!c), H2, I2, rfl, q2⟩)
theorem se_one {op : PySem.BoolOp} (ha : SE X k a ea) : SE X k (.one a) (.BoolOp op [ea] pos) := fun T ρ st σ H Q W n o t p => (pe_one pe_w).w (ha T ρ st σ H Q W n o t p)
/-- and, or as values -/
theorem se_and {rest : List Expr} (ha : SE X k a ea) (hb : SE X k b (.BoolOp .And (eb :: rest) pos)) : SE X k (.and_ a b) (.BoolOp .And (ea :: eb :: rest) pos) := fun T ρ st σ H Q W n o t p pins s I => by
  refine BoolOp_and (thn ((ha.then (Q := fun v H1 => ∃ d st1, Rep T H1 d v ∧ Ext k.loc H H1 ∧ Ok X k T st1 H1 ∧ PostE X k T σ H1 ((if truthy d = true then ev b ρ else ret d) st1) Q W) n.left o t p fun d st1 v H1 r e o1 p1 => ⟨d, st1, r, e, o1, p1⟩) pins s I) fun v s1 ⟨x, H1, I1, r1, q⟩ => ?_)
  obtain ⟨d, st1, rep, e1, o1, p1⟩ := q
  refine thn (tru_D pins s1 σ H1 x v (fun c H2 => c = truthy d ∧ H2 = H1) I1 r1 ⟨T, d, rep, rfl, rfl⟩) fun c s2 hc => ?_
  obtain ⟨H2, I2, e2, e3⟩ := hc
  rw [e3] at I2
  rw [← e2] at p1
  cases c with
  | true =>
    rw [if_pos rfl] at p1 ⊢
    exact hb T ρ st1 σ H1 Q W (n.right.next (o.extT e1)) o1 t p1 pins s2 I2
  | false =>
    rw [if_neg Bool.false_ne_true] at p1 ⊢
    exact ⟨x, H1, I2, r1, PostE.ret p1 _ _ rep .refl o1.rel⟩
theorem se_or {rest : List Expr} (ha : SE X k a ea) (hb : SE X k b (.BoolOp .Or (eb :: rest) pos)) : SE X k (.or_ a b) (.BoolOp .Or (ea :: eb :: rest) pos) := fun T ρ st σ H Q W n o t p pins s I => by
  refine BoolOp_or (thn ((ha.then (Q := fun v H1 => ∃ d st1, Rep T H1 d v ∧ Ext k.loc H H1 ∧ Ok X k T st1 H1 ∧ PostE X k T σ H1 ((if truthy d = true then ret d else ev b ρ) st1) Q W) n.left o t p fun d st1 v H1 r e o1 p1 => ⟨d, st1, r, e, o1, p1⟩) pins s I) fun v s1 ⟨x, H1, I1, r1, q⟩ => ?_)
  obtain ⟨d, st1, rep, e1, o1, p1⟩ := q
  refine thn (tru_D pins s1 σ H1 x v (fun c H2 => c = truthy d ∧ H2 = H1) I1 r1 ⟨T, d, rep, rfl, rfl⟩) fun c s2 hc => ?_
  obtain ⟨H2, I2, e2, e3⟩ := hc
  rw [e3] at I2
  rw [← e2] at p1
  cases c with
  | false =>
    rw [if_neg Bool.false_ne_true] at p1 ⊢
    exact hb T ρ st1 σ H1 Q W (n.right.next (o.extT e1)) o1 t p1 pins s2 I2
  | true =>
    rw [if_pos rfl] at p1 ⊢
    exact ⟨x, H1, I2, r1, PostE.ret p1 _ _ rep .refl o1.rel⟩
/-- .. as tests -/
theorem sw_oneA (ha : ST X k a ea) : SW X k (.one a) (.BoolOp .And [ea] pos) := fun T ρ st σ H Q W n o t p => (pw_and1 pt_w).w (ha T ρ st σ H Q W n o t p)
theorem sw_oneO (ha : ST X k a ea) : SW X k (.one a) (.BoolOp .Or [ea] pos) := fun T ρ st σ H Q W n o t p => (pw_or1 pt_w).w (ha T ρ st σ H Q W n o t p)
theorem sw_and {rest : List Expr} (ha : ST X k a ea) (hb : SW X k b (.BoolOp .And (eb :: rest) pos)) : SW X k (.and_ a b) (.BoolOp .And (ea :: eb :: rest) pos) := fun T ρ st σ H Q W n o t p => by
  refine (pw_and pt_w pw_w).w ?_
  refine ha.thenT n.left o t p fun d st1 H1 e1 o1 p1 => ?_
  by_cases h : truthy d = true
  · rw [if_pos h] at p1 ⊢
    exact hb T ρ st1 σ H1 Q W (n.right.next (o.extT e1)) o1 t p1
  · rw [if_neg h] at p1 ⊢
    have := p1 H1 .refl o1.rel
    rwa [show truthy d = false by simpa using h] at this
theorem sw_or {rest : List Expr} (ha : ST X k a ea) (hb : SW X k b (.BoolOp .Or (eb :: rest) pos)) : SW X k (.or_ a b) (.BoolOp .Or (ea :: eb :: rest) pos) := fun T ρ st σ H Q W n o t p => by
  refine (pw_or pt_w pw_w).w ?_
  refine ha.thenT n.left o t p fun d st1 H1 e1 o1 p1 => ?_
  by_cases h : truthy d = true
  · rw [if_pos h] at p1 ⊢
    have := p1 H1 .refl o1.rel
    rwa [h] at this
  · rw [if_neg h] at p1 ⊢
    exact hb T ρ st1 σ H1 Q W (n.right.next (o.extT e1)) o1 t p1
theorem se_ite {ec : Expr} (hc : ST X k c ec) (ha : SE X k a ea) (hb : SE X k b eb) : SE X k (.ite c a b) (.IfExp ec ea eb pos) := fun T ρ st σ H Q W n o t p => by
  refine (pe_ifExp pt_w pe_w pe_w).w ?_
  refine hc.then n.left o t p fun d st1 H1 e1 o1 p1 => ?_
  by_cases h : truthy d = true
  · rw [if_pos h] at p1 ⊢
    exact ha T ρ st1 σ H1 Q W (n.right.left.next (o.extT e1)) o1 t p1
  · rw [if_neg h] at p1 ⊢
    exact hb T ρ st1 σ H1 Q W (n.right.right.next (o.extT e1)) o1 t p1
theorem st_ite {ec : Expr} (hc : ST X k c ec) (ha : ST X k a ea) (hb : ST X k b eb) : ST X k (.ite c a b) (.IfExp ec ea eb pos) := fun T ρ st σ H Q W n o t p pins s I => by
  refine isTrue_IfExp (thn ((hc.thenT (Q := fun c' H1 => if c' = true then wT X ea σ H1 Q else wT X eb σ H1 Q) n.left o t p fun d st1 H1 e1 o1 p1 => ?_) pins s I) fun c' s1 ⟨H1, I1, q⟩ => ?_)
  · by_cases h : truthy d = true
    · rw [if_pos h] at p1 ⊢
      exact ha T ρ st1 σ H1 Q W (n.right.left.next (o.extT e1)) o1 t p1
    · rw [if_neg h] at p1 ⊢
      exact hb T ρ st1 σ H1 Q W (n.right.right.next (o.extT e1)) o1 t p1
  · cases c' with
    | true => exact q pins s1 I1
    | false => exact q pins s1 I1
/-! ### several -/
theorem sa_nil : SA X k .nil [] := fun T ρ st σ H Q W n o t p => pa_nil.w (p [] H .nil .refl o.rel)
theorem sa_cons {es : List Expr} {r : Es S} (ha : SE X k a ea) (hr : SA X k r es) (hk : okE ea = true) : SA X k (.cons a r) (ea :: es) := fun T ρ st σ H Q W n o t p => by
  refine (pa_cons pe_w pa_w (star_cons hk _ _)).w ?_
  refine ha.thenA n.left o t p fun d st1 v H1 r1 e1 o1 p1 => ?_
  refine hr.thenA (n.right.next (o.extT e1)) o1 t p1 fun ds st2 vs H2 r2 e2 o2 p2 => ?_
  exact p2 _ _ (.cons (r1.ext (o1.extT e2)) r2) .refl o2.rel
theorem se_tup {es : List Expr} {r : Es S} {j : Nat} (hr : SA X k r es) : SE X k (.tup r) (.Tuple es j pos) := fun T ρ st σ H Q W n o t p => by
  refine (pe_tup pa_w).w ?_
  refine hr.then n o t p fun ds st1 vs H1 r1 e1 o1 p1 => ?_
  split at p1
  · rename_i z
    exact ⟨by rw [← r1.length]; exact z, fun q hq => PostE.ret p1 _ _ (.mkTuple (o1.none hq) upd_same (by rw [← r1.length]; exact z) (r1.laid hq)) (Ext.laid hq) (o1.relNo (Ext.laid hq))⟩
  · exact p1.elim
theorem se_lst {es : List Expr} {r : Es S} (hr : SA X k r es) : SE X k (.lst r) (.List es pos) := fun T ρ st σ H Q W n o t p => by
  refine (pe_lst pa_w).w ?_
  refine hr.then n o t p fun ds st1 vs H1 r1 e1 o1 p1 => ?_
  split at p1
  · rename_i z
    exact ⟨by rw [← r1.length]; exact z, fun q hq => PostE.ret p1 _ _ (.mkList (o1.none hq) upd_same (by rw [← r1.length]; exact z) (r1.laid hq)) (Ext.laid hq) (o1.relNo (Ext.laid hq))⟩
  · exact p1.elim
/-! ### displays with stars -/
def SD (X : Cx) (k : SK S) (ss : List Bool) (c : Es S) (es : List Expr) : Prop := ∀ (T : Addr → Prop) (ρ : Env) (st : S) (σ : L2.St) (H : Hp) (Q : List V → Hp → Prop) (W : WX),
  EnvR X k T (fvs c) ρ σ H → Ok X k T st H → Takes X W → PostA X k T σ H (evd ss c ρ st) Q W → wA X es σ H Q
theorem PostA.lft {α : Type} {r : R α} {g : α → M S (List PyData)} {Q : List V → Hp → Prop} (p : PostA X k T σ H (bnd (Mir.lft r) g st) Q W) (nx : ∀ n l, r ≠ .exc n l) : ∃ a, r = .ok a ∧ PostA X k T σ H (g a st) Q W := by
  cases r with
  | ok a => exact ⟨a, rfl, p⟩
  | exc x l => exact (nx _ _ rfl).elim
  | bad => exact p.elim
theorem SD.thenA {ss : List Bool} {cs : Es S} {es : List Expr} (h : SD X k ss cs es) {g : List PyData → M S (List PyData)} {Q : List V → Hp → Prop} {Q' : List V → Hp → Prop} (n : EnvR X k T (fvs cs) ρ σ H) (o : Ok X k T st H) (t : Takes X W) (p : PostA X k T σ H (bnd (evd ss cs ρ) g st) Q' W)
    (q : ∀ d st' v H', RepL T H' d v → Ext k.loc H H' → Ok X k T st' H' → PostA X k T σ H' (g d st') Q' W → Q v H') : wA X es σ H Q := by
  refine h T ρ st σ H Q W n o t ?_
  unfold bnd R.bind at p
  unfold PostA
  cases hr : evd ss cs ρ st with
  | ok a =>
    obtain ⟨d, st'⟩ := a
    rw [hr] at p
    exact fun v H' r e k' => q d st' v H' r e (o.next e k') (PostA.from e p)
  | exc x l => rw [hr] at p; exact p
  | bad => rw [hr] at p; exact p
theorem SD.then {ss : List Bool} {cs : Es S} {es : List Expr} (h : SD X k ss cs es) {g : List PyData → M S PyData} {Q : List V → Hp → Prop} {Q' : VK} (n : EnvR X k T (fvs cs) ρ σ H) (o : Ok X k T st H) (t : Takes X W) (p : PostE X k T σ H (bnd (evd ss cs ρ) g st) Q' W)
    (q : ∀ d st' v H', RepL T H' d v → Ext k.loc H H' → Ok X k T st' H' → PostE X k T σ H' (g d st') Q' W → Q v H') : wA X es σ H Q := by
  refine h T ρ st σ H Q W n o t ?_
  unfold bnd R.bind at p
  unfold PostA
  cases hr : evd ss cs ρ st with
  | ok a =>
    obtain ⟨d, st'⟩ := a
    rw [hr] at p
    exact fun v H' r e k' => q d st' v H' r e (o.next e k') (PostE.from e p)
  | exc x l => rw [hr] at p; exact p
  | bad => rw [hr] at p; exact p
theorem sd_nil {ss : List Bool} : SD X k ss .nil [] := fun T ρ st σ H Q W n o t p => pa_nil.w (p [] H .nil .refl o.rel)
theorem sd_cons {ss : List Bool} {es : List Expr} {r : Es S} (ha : SE X k a ea) (hr : SD X k ss.tail r es) (hk : okE ea = true) (hs : ss.headD false = false) : SD X k ss (.cons a r) (ea :: es) := fun T ρ st σ H Q W n o t p => by
  refine (pa_cons pe_w pa_w (star_cons hk _ _)).w ?_
  have p : PostA X k T σ H (bnd (ev a ρ) (fun x => bnd (lft (spreadR (ss.headD false) x)) fun ys => bnd (evd ss.tail r ρ) fun xs => ret (ys ++ xs)) st) Q W := p
  rw [hs] at p
  refine ha.thenA n.left o t p fun d st1 v H1 r1 e1 o1 p1 => ?_
  have p1 : PostA X k T σ H1 (bnd (evd ss.tail r ρ) (fun xs => ret (d :: xs)) st1) Q W := p1
  refine hr.thenA (n.right.next (o.extT e1)) o1 t p1 fun ds st2 vs H2 r2 e2 o2 p2 => ?_
  exact p2 _ _ (.cons (r1.ext (o1.extT e2)) r2) .refl o2.rel
theorem sd_star {ss : List Bool} {es : List Expr} {r : Es S} {sp : Pos} (ha : SE X k a ea) (hr : SD X k ss.tail r es) (hs : ss.headD false = true) : SD X k ss (.cons a r) (.Starred ea sp :: es) := fun T ρ st σ H Q W n o t p => by
  refine (StX.pa_star pe_w pa_w).w ?_
  have p : PostA X k T σ H (bnd (ev a ρ) (fun x => bnd (lft (spreadR (ss.headD false) x)) fun ys => bnd (evd ss.tail r ρ) fun xs => ret (ys ++ xs)) st) Q W := p
  rw [hs] at p
  refine ha.thenA n.left o t p fun d st1 v H1 r1 e1 o1 p1 => ?_
  obtain ⟨ys, hi, p1⟩ := p1.lft fun n l => itemsR_nx
  obtain ⟨q, xs, rfl, nT, c, z, rr⟩ := itemsR_rep hi r1
  refine ⟨q, xs, rfl, ?_, ?_⟩
  · rcases c with ⟨rfl, hp⟩ | ⟨rfl, hp⟩
    · exact .inr (.of hp)
    · exact .inl (.of hp)
  · refine hr.thenA (n.right.next (o.extT e1)) o1 t p1 fun ds st2 vs H2 r2 e2 o2 p2 => ?_
    exact p2 _ _ ((rr.ext (o1.extT e2)).append r2) .refl o2.rel
theorem se_dispT {ss : List Bool} {es : List Expr} {r : Es S} {j : Nat} (hr : SD X k ss r es) : SE X k (.disp true ss r) (.Tuple es j pos) := fun T ρ st σ H Q W n o t p => by
  refine (pe_tup pa_w).w ?_
  refine hr.then n o t p fun ds st1 vs H1 r1 e1 o1 p1 => ?_
  split at p1
  · rename_i z
    exact ⟨by rw [← r1.length]; exact z, fun q hq => PostE.ret p1 _ _ (.mkTuple (o1.none hq) upd_same (by rw [← r1.length]; exact z) (r1.laid hq)) (Ext.laid hq) (o1.relNo (Ext.laid hq))⟩
  · exact p1.elim
theorem se_dispL {ss : List Bool} {es : List Expr} {r : Es S} (hr : SD X k ss r es) : SE X k (.disp false ss r) (.List es pos) := fun T ρ st σ H Q W n o t p => by
  refine (pe_lst pa_w).w ?_
  refine hr.then n o t p fun ds st1 vs H1 r1 e1 o1 p1 => ?_
  split at p1
  · rename_i z
    exact ⟨by rw [← r1.length]; exact z, fun q hq => PostE.ret p1 _ _ (.mkList (o1.none hq) upd_same (by rw [← r1.length]; exact z) (r1.laid hq)) (Ext.laid hq) (o1.relNo (Ext.laid hq))⟩
  · exact p1.elim
theorem se_dict0 : SE X k .dict0 (.Dict [] [] pos) := fun T ρ st σ H Q W n o t p =>
  pe_dnewK.w fun q hq => PostE.ret p _ _ (by simp only [Rep]; exact ⟨q, rfl, o.none hq, .inl ⟨[], .inl upd_same, by simp [RepK]⟩⟩) (Ext.laid hq) (o.relNo (Ext.laid hq))
theorem se_sub (w : X.A.units + 200 < cLine) (ha : SE X k a ea) (hb : SE X k b eb) (hk : okE eb = true) : SE X k (.sub a b) (.Subscript ea eb pos) := fun T ρ st σ H Q W n o t p =>
  (pe_ix (ix_D (by omega)) pe_w pe_w (ix_ok hk)).w (two_of ha hb (fun x y n l => subD_nx) n.left n.right o t p)
theorem se_slL {lo : E S} {elo : Expr} {p2 : Pos} (ha : SE X k a ea) (hl : SE X k lo elo) : SE X k (.slL a lo) (.Subscript ea (.Slice (some elo) none none p2) pos) := fun T ρ st σ H Q W n o t p => by
  refine (pe_slice sl_D pe_w (po_some pe_w) po_none).w ?_
  refine ha.then n.left o t p fun x st1 v H1 r1 e1 o1 p1 => ?_
  refine hl.then (n.right.next (o.extT e1)) o1 t p1 fun y st2 u H2 r2 e2 o2 p2 => ?_
  obtain ⟨d, hd, q⟩ := p2.there fun n l h => int_then h fun i h => cutX_nx h
  obtain ⟨i, hi, hd⟩ := bind_ok hd
  rw [intR_ok hi] at r2
  exact ⟨i, r2.int_inv, T, x, d, o2.dom', r1.ext (o1.extT e2), hd, fun w H' rw' e' => q w H' rw' (.of_no e') (o2.relNo e')⟩
theorem se_slH {hi : E S} {ehi : Expr} {p2 : Pos} (ha : SE X k a ea) (hl : SE X k hi ehi) : SE X k (.slH a hi) (.Subscript ea (.Slice none (some ehi) none p2) pos) := fun T ρ st σ H Q W n o t p => by
  refine (pe_slice sl_D pe_w po_none (po_some pe_w)).w ?_
  refine ha.then n.left o t p fun x st1 v H1 r1 e1 o1 p1 => ?_
  refine hl.then (n.right.next (o.extT e1)) o1 t p1 fun y st2 u H2 r2 e2 o2 p2 => ?_
  obtain ⟨d, hd, q⟩ := p2.there fun n l h => int_then h fun i h => cutX_nx h
  obtain ⟨i, hi, hd⟩ := bind_ok hd
  rw [intR_ok hi] at r2
  exact ⟨i, r2.int_inv, T, x, d, o2.dom', r1.ext (o1.extT e2), hd, fun w H' rw' e' => q w H' rw' (.of_no e') (o2.relNo e')⟩
theorem se_sl {lo hi : E S} {elo ehi : Expr} {p2 : Pos} (ha : SE X k a ea) (hl : SE X k lo elo) (hh : SE X k hi ehi) : SE X k (.sl a lo hi) (.Subscript ea (.Slice (some elo) (some ehi) none p2) pos) := fun T ρ st σ H Q W n o t p => by
  refine (pe_slice sl_D pe_w (po_some pe_w) (po_some pe_w)).w ?_
  refine ha.then n.left o t p fun x st1 v H1 r1 e1 o1 p1 => ?_
  refine hl.then (n.right.left.next (o.extT e1)) o1 t p1 fun y st2 u H2 r2 e2 o2 p2 => ?_
  have p2' : ∃ i, intR y = .ok i ∧ PostE X k T σ H2 (bnd (ev hi ρ) (fun h => lft ((intR h).bind fun h => cutX x (some i) (some h))) st2) Q W := by
    cases hy : intR y with
    | ok i => rw [hy] at p2; exact ⟨i, rfl, p2⟩
    | exc n l => exact (intR_nx hy).elim
    | bad => rw [hy] at p2; exact p2.elim
  obtain ⟨i, hy, p2⟩ := p2'
  rw [intR_ok hy] at r2
  refine ⟨i, r2.int_inv, ?_⟩
  refine hh.then ((n.right.right.next (o.extT e1)).next (o1.extT e2)) o2 t p2 fun z st3 w H3 r3 e3 o3 p3 => ?_
  obtain ⟨d, hd, q⟩ := p3.there fun n l h => int_then h fun i h => cutX_nx h
  obtain ⟨j, hj, hd⟩ := bind_ok hd
  rw [intR_ok hj] at r3
  exact ⟨j, r3.int_inv, T, x, d, o3.dom', (r1.ext (o1.extT e2)).ext (o2.extT e3), hd, fun w H' rw' e' => q w H' rw' (.of_no e') (o3.relNo e')⟩

/-! ### chains -/
theorem se_chain {o1 o2 : CmpOp} {ec : Expr} (w : X.A.units + 200 < cLine) (ha : SE X k a ea) (hb : SE X k b eb) (hc : SE X k c ec) (kb : okE eb = true) (kc : okE ec = true) : SE X k (.chain o1 o2 a b c) (.Compare ea [o1, o2] [eb, ec] pos) := fun T ρ st σ H Q W n o t p => by
  refine (pe_chain (op_cmpD (by omega) o1) (op_cmpD (by omega) o2) pe_w pe_w pe_w (by show behindInMarks o2 ec = false; exact mark_ok kc o2)).w ?_
  refine ha.then n.left o t p fun x st1 v H1 r1 e1 ok1 p1 => ?_
  refine hb.then (n.right.left.next (o.extT e1)) ok1 t p1 fun y st2 u H2 r2 e2 ok2 p2 => ?_
  have hz : ∃ z, cmpD o1 x y = .ok z := by
    cases q : cmpD o1 x y with
    | ok z => exact ⟨z, rfl⟩
    | exc n l => exact (cmpD_nx q).elim
    | bad => rw [q] at p2; exact p2.elim
  obtain ⟨z, hz⟩ := hz
  rw [hz] at p2
  obtain ⟨bz, rfl⟩ := cmpD_bool hz
  have p2 : PostE X k T σ H2 ((if truthy (.bool bz) = true then bnd (ev c ρ) fun w => lft (cmpD o2 y w) else ret (.bool bz)) st2) Q W := p2
  refine ⟨T, x, y, _, ok2.dom', r1.ext (ok1.extT e2), r2, hz, fun w' H3 rw' e3 => ⟨bz, rw'.bool_inv, ?_⟩⟩
  have e3' : Ext k.loc H2 H3 := .of_no e3
  have ok3 := ok2.next e3' (ok2.relNo e3)
  have p3 := PostE.from e3' p2
  cases bz with
  | false => exact PostE.ret p3 _ _ .mkBool .refl ok3.rel
  | true =>
    have p3 : PostE X k T σ H3 (bnd (ev c ρ) (fun w => lft (cmpD o2 y w)) st2) _ W := p3
    refine hc.then (((n.right.right.next (o.extT e1)).next (ok1.extT e2)).next (ok2.extT e3')) ok3 t p3 fun w st4 wv H4 r4 e4 ok4 p4 => ?_
    obtain ⟨d, hd, q⟩ := p4.there fun n l h => cmpD_nx h
    exact ⟨T, y, w, d, ok4.dom', (r2.ext (ok2.extT e3')).ext (ok3.extT e4), r4, hd, fun w H' rw' e' => q w H' rw' (.of_no e') (ok4.relNo e')⟩
theorem st_chain {o1 o2 : CmpOp} {ec : Expr} (w : X.A.units + 200 < cLine) (ha : SE X k a ea) (hb : SE X k b eb) (hc : SE X k c ec) (kb : okE eb = true) (kc : okE ec = true) : ST X k (.chain o1 o2 a b c) (.Compare ea [o1, o2] [eb, ec] pos) := fun T ρ st σ H Q W n o t p => by
  refine (pt_chain (op_cmpD (by omega) o1) (op_cmpD (by omega) o2) pe_w pe_w pe_w (by show behindInMarks o2 ec = false; exact mark_ok kc o2)).w ?_
  show tChain _ _ _ _ _ σ H fun x H' => ∃ c, x = .bl c ∧ Q c H'
  have e : ev (.chain o1 o2 a b c) ρ st = bnd (ev a ρ) (fun x => bnd (ev b ρ) fun y => bnd (lft (cmpD o1 x y)) fun z => if truthy z = true then bnd (ev c ρ) fun w => lft (cmpD o2 y w) else ret z) st := rfl
  have p : PostE X k T σ H (bnd (ev a ρ) (fun x => bnd (ev b ρ) fun y => bnd (lft (cmpD o1 x y)) fun z => if truthy z = true then bnd (ev c ρ) fun w => lft (cmpD o2 y w) else ret z) st) (fun v H' => ∃ c, v = .bl c ∧ Q c H') W := by
    rw [← e]
    unfold PostT at p
    unfold PostE
    cases hr : ev (.chain o1 o2 a b c) ρ st with
    | ok z =>
      rw [hr] at p
      obtain ⟨d, st'⟩ := z
      have hb : ∃ c, d = .bool c := by
        rw [e] at hr
        unfold bnd at hr
        obtain ⟨⟨x1, s1⟩, _, h2⟩ := bind_ok hr
        obtain ⟨⟨x2, s2⟩, _, h3⟩ := bind_ok h2
        obtain ⟨⟨x3, s3⟩, h4, h5⟩ := bind_ok h3
        unfold lft at h4
        obtain ⟨z, h6, h7⟩ := bind_ok h4
        cases h7
        obtain ⟨bz, rfl⟩ := cmpD_bool h6
        cases bz with
        | false => cases h5; exact ⟨_, rfl⟩
        | true =>
          obtain ⟨⟨x4, s4⟩, _, h8⟩ := bind_ok h5
          unfold lft at h8
          obtain ⟨z, h9, h10⟩ := bind_ok h8
          cases h10
          exact cmpD_bool h9
      obtain ⟨c, rfl⟩ := hb
      exact fun v H' r e k' => ⟨c, r.bool_inv, p H' e k'⟩
    | exc x l => rw [hr] at p; exact p
    | bad => rw [hr] at p; exact p
  refine ha.then n.left o t p fun x st1 v H1 r1 e1 ok1 p1 => ?_
  refine hb.then (n.right.left.next (o.extT e1)) ok1 t p1 fun y st2 u H2 r2 e2 ok2 p2 => ?_
  have hz : ∃ z, cmpD o1 x y = .ok z := by
    cases q : cmpD o1 x y with
    | ok z => exact ⟨z, rfl⟩
    | exc n l => exact (cmpD_nx q).elim
    | bad => rw [q] at p2; exact p2.elim
  obtain ⟨z, hz⟩ := hz
  rw [hz] at p2
  obtain ⟨bz, rfl⟩ := cmpD_bool hz
  have p2 : PostE X k T σ H2 ((if truthy (.bool bz) = true then bnd (ev c ρ) fun w => lft (cmpD o2 y w) else ret (.bool bz)) st2) _ W := p2
  refine ⟨T, x, y, _, ok2.dom', r1.ext (ok1.extT e2), r2, hz, fun w' H3 rw' e3 => ⟨bz, rw'.bool_inv, ?_⟩⟩
  have e3' : Ext k.loc H2 H3 := .of_no e3
  have ok3 := ok2.next e3' (ok2.relNo e3)
  have p3 := PostE.from e3' p2
  cases bz with
  | false => exact PostE.ret p3 _ _ .mkBool .refl ok3.rel
  | true =>
    have p3 : PostE X k T σ H3 (bnd (ev c ρ) (fun w => lft (cmpD o2 y w)) st2) _ W := p3
    refine hc.then (((n.right.right.next (o.extT e1)).next (ok1.extT e2)).next (ok2.extT e3')) ok3 t p3 fun w st4 wv H4 r4 e4 ok4 p4 => ?_
    obtain ⟨d, hd, q⟩ := p4.there fun n l h => cmpD_nx h
    exact ⟨T, y, w, d, ok4.dom', (r2.ext (ok2.extT e3')).ext (ok3.extT e4), r4, hd, fun w H' rw' e' => q w H' rw' (.of_no e') (ok4.relNo e')⟩

/-! ### calls -/
/-- nothing but what is tracked and may change -/
def DomM (T : Addr → Prop) (H : Hp) : Prop := ∀ a, T a → ∃ o, H a = some o ∧ Mut (some o)
/-- what a pure def promises -/
def spP (mg : Str → Option Value) (m : List PyData → R PyData) (n : Nat) : Sp := fun vs H Q E => vs.length = n ∧ ∃ T ds, DomM T H ∧ RepL T H ds vs ∧ (match m ds with
  | .ok d => ∀ v H', Rep T H' d v → Ext NoT H H' → Q v H'
  | .exc x l => ∀ cls dx H', XcIs mg x l cls dx H' → Ext NoT H H' → E cls dx H'
  | .bad => False)
structure GX where
  P : Program
  w : World
  K : PySem.W.Frag
  mg : Str → Option Value
  base : Heap
  A : Around
def gx (X : Cx) : GX := ⟨X.prog, X.w, X.K, X.mg, X.base, X.A⟩
/-- the name nm is a def that is m -/
def FnS (G : GX) (nm : Str) (m : List PyData → R PyData) (n : Nat) : Prop := ∃ (f : Addr) (fd : FuncData) (ps : List Str) (lv : Nat),
  FnOk G.P G.w G.K G.mg G.base (L2.CX G.P G.w) lv f fd ps (spP G.mg m n) ∧ Room lv G.A ∧ G.mg nm = some (.ref f) ∧ PySem.W.keepIn G.K (.ref f) = true ∧ Binds G.K fd ps []
def esLen {S : Type} : Es S → Nat
  | .nil => 0
  | .cons _ r => esLen r + 1
theorem evs_len : ∀ {r : Es S} {ρ : Env} {st : S} {ds : List PyData} {st' : S}, evs r ρ st = .ok (ds, st') → ds.length = esLen r
  | .nil, _, _, _, _, h => by cases h; rfl
  | .cons a r, ρ, st, ds, st', h => by
    simp only [evs] at h
    unfold bnd at h
    obtain ⟨⟨x, s1⟩, h1, h2⟩ := bind_ok h
    obtain ⟨⟨xs, s2⟩, h3, h4⟩ := bind_ok h2
    cases h4
    show xs.length + 1 = esLen r + 1
    rw [evs_len h3]
/-- the arguments, and that they are so many -/
theorem SA.thenN {es : List Expr} {cs : Es S} (h : SA X k cs es) {g : List PyData → M S PyData} {Q : List V → Hp → Prop} {Q' : VK} (n : EnvR X k T (fvs cs) ρ σ H) (o : Ok X k T st H) (t : Takes X W) (p : PostE X k T σ H (bnd (evs cs ρ) g st) Q' W)
    (q : ∀ d st' v H', d.length = esLen cs → RepL T H' d v → Ext k.loc H H' → Ok X k T st' H' → PostE X k T σ H' (g d st') Q' W → Q v H') : wA X es σ H Q := by
  refine h T ρ st σ H Q W n o t ?_
  unfold bnd R.bind at p
  unfold PostA
  cases hr : evs cs ρ st with
  | ok a =>
    obtain ⟨d, st'⟩ := a
    rw [hr] at p
    exact fun v H' r e k' => q d st' v H' (evs_len hr) r e (o.next e k') (PostE.from e p)
  | exc x l => rw [hr] at p; exact p
  | bad => rw [hr] at p; exact p
theorem se_call {nm : Str} {m : List PyData → R PyData} {es : List Expr} {e : Expr} {pn : Pos} {r : Es S} (hf : FnS (gx X) nm m (esLen r)) (hg : Gl X nm) (hdb : (nm == ("__debug__" : Str)) = false) (ha : SA X k r (e :: es)) (hk : (e :: es).all okE = true) :
    SE X k (.call nm m r) (.Call (.Name nm pn) (e :: es) [] pos) := fun T ρ st σ H Q W n o t p => by
  obtain ⟨f, fd, ps, lv, F, hr, hm, kp, hb⟩ := hf
  rw [List.all_cons, Bool.and_eq_true] at hk
  refine (pe_callS (E := WE W) F hr hg hm kp hb (fun σ => passAt t σ) pa_w hdb (star_cons hk.1 _ _) (back_ok _ _ hk.2)).w ?_
  refine ha.thenN n o t p fun ds st1 vs H1 hl r1 e1 o1 p1 => ?_
  refine ⟨by rw [← r1.length, hl], T, ds, o1.dom, r1, ?_⟩
  cases q : m ds with
  | ok d => rw [q] at p1; exact fun v H' rv' e' => PostE.ret p1 v H' rv' (.of_no e') (o1.relNo e')
  | exc x l => rw [q] at p1; exact fun cls dx H' hx e' => p1 cls dx H' hx (.of_no e')
  | bad => rw [q] at p1; exact p1
/-- .. with the state -/
def spS {S : Type} (mg : Str → Option Value) (k : SK S) (a : Addr) (m : List PyData → S → R (PyData × S)) (n : Nat) : Sp := fun vs H Q E => ∃ T ds st ws, vs = .ref a :: ws ∧ ws.length = n ∧ DomM T H ∧ (∀ b, k.loc b → T b) ∧ RepL T H ds ws ∧ k.rel st H ∧ (match m ds st with
  | .ok (d, st') => ∀ v H', Rep T H' d v → Ext k.loc H H' → k.rel st' H' → Q v H'
  | .exc x l => ∀ cls dx H', XcIs mg x l cls dx H' → Ext k.loc H H' → E cls dx H'
  | .bad => False)
def FnSS {S : Type} (G : GX) (k : SK S) (a : Addr) (nm : Str) (m : List PyData → S → R (PyData × S)) (n : Nat) : Prop := ∃ (f : Addr) (fd : FuncData) (ps : List Str) (lv : Nat),
  FnOk G.P G.w G.K G.mg G.base (L2.CX G.P G.w) lv f fd ps (spS G.mg k a m n) ∧ Room lv G.A ∧ G.mg nm = some (.ref f) ∧ PySem.W.keepIn G.K (.ref f) = true ∧ Binds G.K fd ps []
theorem se_callS {nm dn : Str} {i : Nat} {da : Addr} {m : List PyData → S → R (PyData × S)} {es : List Expr} {pn pd : Pos} {r : Es S} (hs : k.slot = some (i, da)) (hN : X.N[i]? = some dn) (hv : Vis X.env.scope dn) (hd1 : (dn == ("__debug__" : Str)) = false) (hd2 : (dn == ("__classdict__" : Str)) = false)
    (hf : FnSS (gx X) k da nm m (esLen r)) (hg : Gl X nm) (hdb : (nm == ("__debug__" : Str)) = false) (ha : SA X k r es) (hk : es.all okE = true) :
    SE X k (.callS nm m r) (.Call (.Name nm pn) (.Name dn pd :: es) [] pos) := fun T ρ st σ H Q W n o t p => by
  obtain ⟨f, fd, ps, lv, F, hr, hm, kp, hb⟩ := hf
  refine (pe_callS (E := WE W) F hr hg hm kp hb (fun σ => passAt t σ) (pa_cons (pe_var hN hv hd1 hd2) pa_w (star_cons (by rfl) _ _)) hdb (star_cons (by rfl) _ _) (back_ok _ _ hk)).w ?_
  refine ⟨.ref da, n.ds _ hs, ?_⟩
  refine ha.thenN n o t p fun ds st1 vs H1 hl r1 e1 o1 p1 => ?_
  refine ⟨T, ds, st1, vs, rfl, by rw [← r1.length, hl], o1.dom, o1.loc, r1, o1.rel, ?_⟩
  cases q : m ds st1 with
  | ok d => rw [q] at p1; exact fun v H' rv' e' re' => p1 v H' rv' e' re'
  | exc x l => rw [q] at p1; exact fun cls dx H' hx e' => p1 cls dx H' hx e'
  | bad => rw [q] at p1; exact p1
/-! ### built-in functions -/
theorem blt_end {f : B} {es : List Expr} {r : Es S} (ha : SA X k r es) {Q : VK} (n : EnvR X k T (fvs r) ρ σ H) (o : Ok X k T st H) (t : Takes X W) (p : PostE X k T σ H (bnd (evs r ρ) (fun xs => lft (bltD f xs)) st) Q W) : wA X es σ H fun vs H1 => rBlt X f vs H1 Q := by
  refine ha.then n o t p fun ds st1 vs H1 r1 e1 o1 p1 => ?_
  obtain ⟨d, hd, q⟩ := p1.there fun n l => bltD_nx
  exact ⟨T, ds, d, o1.dom', r1, hd, fun w H' rw' e' => q w H' rw' (.of_no e') (o1.relNo e')⟩
/-- the name under which a built-in function stands -/
def bltName : B → Option (String × Bool)
  | .len => some ("len", false) | .tuple_ => some ("tuple", true) | .list_ => some ("list", true) | .sorted => some ("sorted", false) | .all_ => some ("all", false) | .any_ => some ("any", false)
  | .int_ => some ("int", true) | .sum => some ("sum", false) | .min1 => some ("min", false) | .max1 => some ("max", false) | .min2 => some ("min", false) | .max2 => some ("max", false)
  | .abs => some ("abs", false) | .str_ => some ("str", true)
  | _ => none
theorem se_blt {f : B} {nm : String} {ty : Bool} {es : List Expr} {e : Expr} {pn : Pos} {r : Es S} (w : X.A.units + 200 < cLine) (hc : X.calm = true) (hf : bltName f = some (nm, ty)) (hg : Gl X (Str.ofString nm)) (hm : X.mg (Str.ofString nm) = none) (ha : SA X k r (e :: es)) (hk : (e :: es).all okE = true) :
    SE X k (.blt f r) (.Call (.Name (Str.ofString nm) pn) (e :: es) [] pos) := fun T ρ st σ H Q W n o t p => by
  rw [List.all_cons, Bool.and_eq_true] at hk
  have h1 : starEach (e :: es) X.env = (false, eval e X.env) :: starEach es X.env := star_cons hk.1 _ _
  have h2 : (backTo pos (starEach es X.env)).any (·.1) = false := back_ok _ _ hk.2
  have fin := blt_end (f := f) ha n o t p
  cases f with
  | len => cases hf; exact (pe_callB blt_len hg hm (by decide +kernel) pa_w (by decide) (by decide) h1 h2).w fin
  | sorted => cases hf; exact (pe_callB (blt_sorted hc (by omega)) hg hm (by decide +kernel) pa_w (by decide) (by decide) h1 h2).w fin
  | all_ => cases hf; exact (pe_callB (blt_all hc) hg hm (by decide +kernel) pa_w (by decide) (by decide) h1 h2).w fin
  | any_ => cases hf; exact (pe_callB (blt_any hc) hg hm (by decide +kernel) pa_w (by decide) (by decide) h1 h2).w fin
  | sum => cases hf; exact (pe_callB (blt_sum hc) hg hm (by decide +kernel) pa_w (by decide) (by decide) h1 h2).w fin
  | min1 => cases hf; exact (pe_callB (blt_min1 (by omega) hc) hg hm (by decide +kernel) pa_w (by decide) (by decide) h1 h2).w fin
  | max1 => cases hf; exact (pe_callB (blt_max1 (by omega) hc) hg hm (by decide +kernel) pa_w (by decide) (by decide) h1 h2).w fin
  | min2 => cases hf; exact (pe_callB (blt_min2 hc) hg hm (by decide +kernel) pa_w (by decide) (by decide) h1 h2).w fin
  | max2 => cases hf; exact (pe_callB (blt_max2 hc) hg hm (by decide +kernel) pa_w (by decide) (by decide) h1 h2).w fin
  | abs => cases hf; exact (pe_callB blt_abs hg hm (by decide +kernel) pa_w (by decide) (by decide) h1 h2).w fin
  | tuple_ => cases hf; exact (pe_callTy blt_tuple hg hm (by decide +kernel) pa_w (by decide) (by decide) h1 h2).w fin
  | list_ => cases hf; exact (pe_callTy blt_list hg hm (by decide +kernel) pa_w (by decide) (by decide) h1 h2).w fin
  | int_ => cases hf; exact (pe_callTy blt_int hg hm (by decide +kernel) pa_w (by decide) (by decide) h1 h2).w fin
  | str_ => cases hf; exact (pe_callTy blt_str hg hm (by decide +kernel) pa_w (by decide) (by decide) h1 h2).w fin
  | _ => cases hf
theorem se_isa {ty : Ty} {pi pt : Pos} (hg : Gl X "isinstance") (hm : X.mg "isinstance" = none) (hg2 : Gl X (Str.ofString (tyName ty))) (hm2 : X.mg (Str.ofString (tyName ty)) = none) (ha : SE X k a ea) (hk : okE ea = true) :
    SE X k (.isa ty a) (.Call (.Name "isinstance" pi) [ea, .Name (Str.ofString (tyName ty)) pt] [] pos) := fun T ρ st σ H Q W n o t p => by
  have h1 : starEach [ea, .Name (Str.ofString (tyName ty)) pt] X.env = (false, eval ea X.env) :: starEach [.Name (Str.ofString (tyName ty)) pt] X.env := star_cons hk _ _
  have h2 : (backTo pos (starEach [.Name (Str.ofString (tyName ty)) pt] X.env)).any (·.1) = false := back_ok _ _ (by rfl)
  have ht : PE X (.Name (Str.ofString (tyName ty)) pt) (tC (.ty (tyName ty))) := by
    cases ty with
    | int => exact pe_bltn hg2 hm2 (u := .type "int") (by decide +kernel) rfl (by decide) (by decide)
    | bool => exact pe_bltn hg2 hm2 (u := .type "bool") (by decide +kernel) rfl (by decide) (by decide)
    | str => exact pe_bltn hg2 hm2 (u := .type "str") (by decide +kernel) rfl (by decide) (by decide)
    | tuple => exact pe_bltn hg2 hm2 (u := .type "tuple") (by decide +kernel) rfl (by decide) (by decide)
    | list => exact pe_bltn hg2 hm2 (u := .type "list") (by decide +kernel) rfl (by decide) (by decide)
    | dict => exact pe_bltn hg2 hm2 (u := .type "dict") (by decide +kernel) rfl (by decide) (by decide)
  refine (pe_callB (blt_isa ty) hg hm (by decide +kernel) (pa_cons pe_w (pa_cons ht pa_nil (star_cons (by rfl) _ _)) h1) (by decide) (by decide) h1 h2).w ?_
  refine ha.then n o t p fun d st1 v H1 r1 e1 o1 p1 => ?_
  exact ⟨T, d, v, rfl, r1, PostE.ret p1 _ _ .mkBool .refl o1.rel⟩

/-! ### other reading forms -/
theorem op1D_nx {f : O1} {x : PyData} {n : Str} {l : List PyData} (h : op1D f x = .exc n l) : False := by
  unfold op1D at h
  split at h <;> first | (cases h; done) | (split at h <;> first | (cases h; done) | (split at h <;> cases h))
theorem op2D_nx {f : O2} {x y : PyData} {n : Str} {l : List PyData} (h : op2D f x y = .exc n l) : False := by
  unfold op2D at h
  split at h <;> first | (cases h; done) | (split at h <;> first | (cases h; done) | (split at h <;> cases h))
theorem PostF.from {r : R (PyData × S)} {Q : VK} {H1 : Hp} (x0 : ∀ a, H1 a = Option.none → H a = Option.none) (e : Ext k.loc H H1) (h : PostF X k T σ H r Q W) : PostF X k T σ H1 r Q W := by
  unfold PostF at h ⊢
  match r, h with
  | .ok (d, st), h => exact fun a H' ha b c d e2 => h a H' (x0 a ha) b c (e.trans d) e2
  | .exc x l, h => exact fun v dx H' a b => h v dx H' a (e.trans b)
  | .bad, h => exact h
theorem Ok.x0 (o : Ok X k T st H) {st' : S} {H1 : Hp} (e : Ext k.loc H H1) (r : k.rel st' H1) : ∀ a, H1 a = Option.none → H a = Option.none := fun a h => by
  cases q : H a with
  | none => rfl
  | some u =>
    by_cases l : k.loc a
    · obtain ⟨xs, z⟩ := k.there _ _ a r l
      rw [h] at z; cases z
    · rw [e a u l q] at h; cases h
theorem PostF.there {r : R PyData} {Q : VK} (p : PostF X k T σ H (lft r st) Q W) (o : Ok X k T st H) (nx : ∀ n l, r ≠ .exc n l) : ∃ d, r = .ok d ∧ AnsF T d Q H := by
  cases r with
  | ok d => exact ⟨d, rfl, fun a H' ha w e => p a H' ha (o.none ha) w (.of_no e) (o.relNo e)⟩
  | exc x l => exact (nx _ _ rfl).elim
  | bad => exact p.elim
theorem SE.thenF (h : SE X k c e) {g : PyData → M S PyData} {Q Q' : VK} (n : EnvR X k T (fv c) ρ σ H) (o : Ok X k T st H) (t : Takes X W) (p : PostF X k T σ H (bnd (ev c ρ) g st) Q' W)
    (q : ∀ d st' v H', Rep T H' d v → Ext k.loc H H' → Ok X k T st' H' → PostF X k T σ H' (g d st') Q' W → Q v H') : wE X e σ H Q := by
  refine h T ρ st σ H Q W n o t ?_
  unfold bnd R.bind at p
  unfold PostE
  cases hr : ev c ρ st with
  | ok a =>
    obtain ⟨d, st'⟩ := a
    rw [hr] at p
    exact fun v H' r e k' => q d st' v H' r e (o.next e k') (PostF.from (o.x0 e k') e p)
  | exc x l => rw [hr] at p; exact p
  | bad => rw [hr] at p; exact p
/-- what a form of one part reads -/
theorem op1_read {f : O1} (ha : SE X k a ea) {Q : VK} (n : EnvR X k T (fv a) ρ σ H) (o : Ok X k T st H) (t : Takes X W) (p : PostE X k T σ H (bnd (ev a ρ) (fun x => lft (op1D f x)) st) Q W) : wE X ea σ H fun v H1 => ∃ T x d, Dom T H1 ∧ Rep T H1 x v ∧ op1D f x = .ok d ∧ ansOf X (fr1 f) T d Q H1 := by
  refine ha.then n o t p fun x st1 v H1 r1 e1 o1 p1 => ?_
  obtain ⟨d, hd, q⟩ := p1.there fun n l => op1D_nx
  exact ⟨T, x, d, o1.dom', r1, hd, Ans.of (X := X) (fun w H' rw' e' => q w H' rw' (.of_no e') (o1.relNo e')) o1.dom'⟩
theorem op1_readF {f : O1} (ha : SE X k a ea) (hf : fr1 f = true) {Q : VK} (n : EnvR X k T (fv a) ρ σ H) (o : Ok X k T st H) (t : Takes X W) (p : PostF X k T σ H (bnd (ev a ρ) (fun x => lft (op1D f x)) st) Q W) : wE X ea σ H fun v H1 => ∃ T x d, Dom T H1 ∧ Rep T H1 x v ∧ op1D f x = .ok d ∧ ansOf X (fr1 f) T d Q H1 := by
  refine ha.thenF n o t p fun x st1 v H1 r1 e1 o1 p1 => ?_
  obtain ⟨d, hd, q⟩ := p1.there o1 fun n l => op1D_nx
  refine ⟨T, x, d, o1.dom', r1, hd, ?_⟩
  unfold ansOf
  rw [if_pos hf]
  exact q
/-- the form f of the part ea is e -/
def Is1 (X : Cx) (f : O1) (ea e : Expr) : Prop := PE X e (tOp1 X f (wE X ea))
theorem se_op1 {f : O1} (h : Is1 X f ea e) (ha : SE X k a ea) : SE X k (.op1 f a) e := fun T ρ st σ H Q W n o t p => (show PE X e _ from h).w (op1_read ha n o t p)
theorem sf_op1 {f : O1} (h : Is1 X f ea e) (hf : fr1 f = true) (ha : SE X k a ea) : ∀ (T : Addr → Prop) (ρ : Env) (st : S) (σ : L2.St) (H : Hp) (Q : VK) (W : WX), EnvR X k T (fv (.op1 f a : E S)) ρ σ H → Ok X k T st H → Takes X W → PostF X k T σ H (ev (.op1 f a) ρ st) Q W → wE X e σ H Q := fun T ρ st σ H Q W n o t p => (show PE X e _ from h).w (op1_readF ha hf n o t p)
theorem is_rev {p p2 pos pos2 : Pos} (hc : X.calm = true) (hg : Gl X "list") (hm : X.mg "list" = none) (hg2 : Gl X "reversed") (hm2 : X.mg "reversed" = none) (hk : okE ea = true) : Is1 X .rev ea (.Call (.Name "list" p) [.Call (.Name "reversed" p2) [ea] [] pos2] [] pos) := by
  refine ⟨fun pins s σ H Q I h => ?_⟩
  refine (pe_listRev hc hg hm hg2 hm2 pe_w (star_cons hk _ _)).run pins s σ H Q I ?_
  refine wE.mono h fun v H1 ⟨T, x, d, dm, hx, hd, a⟩ => ?_
  unfold op1D at hd
  split at hd
  · rename_i ds _
    cases hd
    obtain ⟨q, xs, rfl, n, hp, z, rr⟩ := hx.list_inv
    refine ⟨q, xs, rfl, .of hp, fun r hr => a r _ hr ⟨xs.reverse, upd_same, by rw [List.length_reverse]; exact z, ?_⟩ (Ext.laid hr)⟩
    exact RepL.mv (mvP hr) _ _ rr.reverse
  · rename_i h; cases h
  · rename_i h; cases h
  · rename_i h; cases h
  · rename_i h; cases h
  · cases hd
theorem is_dictOf {p pos : Pos} (hc : X.calm = true) (hg : Gl X "dict") (hm : X.mg "dict" = none) (hk : okE ea = true) : Is1 X .dictOf ea (.Call (.Name "dict" p) [ea] [] pos) := by
  have h1 : starEach [ea] X.env = (false, eval ea X.env) :: starEach [] X.env := star_cons hk _ _
  refine ⟨fun pins s σ H Q I h => ?_⟩
  refine (pe_callTy (op1_dictOf hc) hg hm (by decide +kernel) (pa_cons pe_w pa_nil h1) (by decide) (by decide) h1 rfl).run pins s σ H Q I ?_
  exact wE.mono h fun v H1 ⟨T, x, d, dm, hx, hd, a⟩ => ⟨T, x, v, d, rfl, dm, hx, hd, a⟩
/-- .. of two parts -/
def Is2 (X : Cx) (f : O2) (ea eb e : Expr) : Prop := PE X e (tOp2 X f (wE X ea) (wE X eb))
theorem se_op2 {f : O2} (h : Is2 X f ea eb e) (ha : SE X k a ea) (hb : SE X k b eb) : SE X k (.op2 f a b) e := fun T ρ st σ H Q W n o t p => by
  refine (show PE X e _ from h).w ?_
  have p : PostE X k T σ H (bnd (ev a ρ) (fun x => if ok2 f x = true then bnd (ev b ρ) fun y => lft (op2D f x y) else lft .bad) st) Q W := p
  refine ha.then n.left o t p fun x st1 v H1 r1 e1 o1 p1 => ?_
  by_cases hx : ok2 f x = true
  · rw [if_pos hx] at p1
    refine ⟨⟨T, x, r1, hx⟩, ?_⟩
    refine hb.then (n.right.next (o.extT e1)) o1 t p1 fun y st2 u H2 r2 e2 o2 p2 => ?_
    obtain ⟨d, hd, q⟩ := p2.there fun n l => op2D_nx
    exact ⟨T, x, y, d, o2.dom', r1.ext (o1.extT e2), r2, hd, fun w H' rw' e' => q w H' rw' (.of_no e') (o2.relNo e')⟩
  · rw [if_neg hx] at p1; exact p1.elim
def baseOk : Expr → Bool
  | .Call .. => false
  | _ => true
theorem base_ok {e : Expr} {m : Str} {env : PySem.Env} (h : baseOk e = true) : attributeBase e m env (eval e env) = eval e env := by cases e <;> first | rfl | cases h
theorem is_sindex {ap pos : Pos} (hk : okE eb = true) (hbs : baseOk ea = true) (hl : (ap.endLine == pos.line) = true) : Is2 X .sindex ea eb (.Call (.Attribute ea "index" ap) [eb] [] pos) := by
  have h1 : starEach [eb] X.env = (false, eval eb X.env) :: starEach [] X.env := star_cons hk _ _
  refine ⟨fun pins s σ H Q I h => ?_⟩
  refine (pe_bm PySem.F.plainAttrs_str PySem.F.slot_str_index PySem.F.type_str_index op2_sindex pe_w (pa_cons pe_w pa_nil h1) (base_ok hbs) (by rw [h1]; rfl) hl h1 rfl).run pins s σ H Q I ?_
  refine wE.mono h fun v H1 ⟨⟨T, x, rx, hx⟩, q⟩ => ⟨?_, wE.mono q fun u H2 q2 => ⟨u, rfl, q2⟩⟩
  cases x with
  | str z => rw [rx.str_inv.1]; rfl
  | _ => cases hx

theorem is_lindex {ap pos : Pos} (hk : okE eb = true) (hbs : baseOk ea = true) (hl : (ap.endLine == pos.line) = true) : Is2 X .lindex ea eb (.Call (.Attribute ea "index" ap) [eb] [] pos) := by
  have h1 : starEach [eb] X.env = (false, eval eb X.env) :: starEach [] X.env := star_cons hk _ _
  refine ⟨fun pins s σ H Q I h => ?_⟩
  refine (pe_bm PySem.F.plainAttrs_list PySem.F.slot_list_index PySem.F.type_list_index op2_lindex pe_w (pa_cons pe_w pa_nil h1) (base_ok hbs) (by rw [h1]; rfl) hl h1 rfl).run pins s σ H Q I ?_
  refine wE.mono h fun v H1 ⟨⟨T, x, rx, hx⟩, q⟩ => ⟨?_, wE.mono q fun u H2 q2 => ⟨u, rfl, q2⟩⟩
  cases x with
  | list z => obtain ⟨p, xs, rfl, n, hp, _⟩ := rx.list_inv; exact .inl ⟨rfl, xs, .of hp⟩
  | _ => cases hx
/-! ### one of some defs -/
def PickOk (G : GX) (m : List PyData → R PyData) (n : Nat) (f : Addr) : Prop := ∃ (fd : FuncData) (ps : List Str) (lv : Nat),
  FnOk G.P G.w G.K G.mg G.base (L2.CX G.P G.w) lv f fd ps (spP G.mg m n) ∧ Room lv G.A ∧ PySem.W.keepIn G.K (.ref f) = true ∧ Binds G.K fd ps []
def NeedPk (G : GX) (n : Nat) : List (Str × (List PyData → R PyData)) → Prop
  | [] => True
  | p :: r => FnS G p.1 p.2 n ∧ NeedPk G n r
/-- the names are those of the defs -/
inductive PkNs (X : Cx) : List (Str × (List PyData → R PyData)) → List Expr → Prop
  | nil : PkNs X [] []
  | cons {x : Str} {m : List PyData → R PyData} {p : Pos} {fs : List (Str × (List PyData → R PyData))} {es : List Expr} (hg : Gl X x) (hd : (x == ("__debug__" : Str)) = false) (r : PkNs X fs es) : PkNs X ((x, m) :: fs) (.Name x p :: es)
theorem pk_ok {n : Nat} : ∀ {fs : List (Str × (List PyData → R PyData))} {es : List Expr}, PkNs X fs es → NeedPk (gx X) n fs → ∃ vs : List V, (∀ (σ : L2.St) (H : Hp) (Q : List V → Hp → Prop), Q vs H → wA X es σ H Q) ∧ vs.length = fs.length ∧ ∀ (i : Nat) p, fs[i]? = some p → ∃ f, vs[i]? = some (.ref f) ∧ PickOk (gx X) p.2 n f
  | _, _, .nil, _ => ⟨[], fun σ H Q q => pa_nil.w q, rfl, fun i p h => by simp at h⟩
  | _, _, .cons (x := x) (m := m) hg hd r, ⟨⟨f, fd, ps, lv, F, hr, hm, kp, hb⟩, nd⟩ => by
    obtain ⟨vs, h1, h2, h3⟩ := pk_ok r nd
    refine ⟨.ref f :: vs, fun σ H Q q => (pa_cons (pe_glob hg hm (show L2.RelV (V.ref f) (Value.ref f) from rfl) hd) pa_w).w (h1 σ H _ q), congrArg Nat.succ h2, fun i p h => ?_⟩
    cases i with
    | zero => cases h; exact ⟨f, rfl, fd, ps, lv, F, hr, kp, hb⟩
    | succ i => exact h3 i p h
theorem pickD_some {fs : List (Str × (List PyData → R PyData))} {d : PyData} {p : Str × (List PyData → R PyData)} (h : pickD fs d = some p) : ∃ z : Int, d = .int z ∧ 0 ≤ z ∧ fs[z.toNat]? = some p := by
  unfold pickD at h
  split at h
  · rename_i z
    split at h
    · rename_i hz; exact ⟨z, rfl, hz, h⟩
    · cases h
  · cases h
theorem se_pick {fs : List (Str × (List PyData → R PyData))} {ns es : List Expr} {e : Expr} {p1 p2 : Pos} {i : E S} {ei : Expr} {r : Es S} (hn : PkNs X fs ns) (nd : NeedPk (gx X) (esLen r) fs) (hl : fs.length ≤ 1000) (hi : SE X k i ei) (hki : okE ei = true) (ha : SA X k r (e :: es)) (hk : (e :: es).all okE = true) :
    SE X k (.pick fs i r) (.Call (.Subscript (.List ns p1) ei p2) (e :: es) [] pos) := fun T ρ st σ H Q W n o t p => by
  intro pins s I
  obtain ⟨vs, v1, v2, v3⟩ := pk_ok hn nd
  have p : PostE X k T σ H (bnd (ev i ρ) (fun x => match pickD fs x with
    | some p => bnd (evs r ρ) fun xs => lft (p.2 xs)
    | none => lft .bad) st) Q W := p
  have hk' := hk
  rw [List.all_cons, Bool.and_eq_true] at hk'
  have pf := pe_ix (pos := p2) (X := X) (ix_list (X := X)) (pe_lst (pos := p1) (pa_w (X := X) (es := ns))) (pe_w (X := X) (e := ei)) (ix_ok hki)
  refine Call_ (thn (pf.run pins s σ H (fun w H2 => ∃ f m, w = .ref f ∧ PickOk (gx X) m (esLen r) f ∧ wA X (e :: es) σ H2 fun vs H3 => spP X.mg m (esLen r) vs H3 Q (WE W σ)) I ?_) fun u s1 ⟨y, H1, I1, ry, f, m, ey, ⟨fd, ps, lv, F, hr, kp, hb⟩, q⟩ => ?_) (by rfl)
  · refine v1 σ H _ ⟨by rw [v2]; show _ ≤ 2 ^ 24; omega, fun a0 ha0 => ?_⟩
    have e0 : Ext k.loc H (upd H a0 (.lst vs)) := .laid ha0
    have o0 : Ok X k T st (upd H a0 (.lst vs)) := o.next e0 (k.keep _ _ _ o.rel fun b hb => by
      refine upd_ne fun z => ?_
      obtain ⟨xs, hx⟩ := k.there _ _ b o.rel hb
      rw [z, ha0] at hx; cases hx)
    refine hi.then (n.left.next (o.extT e0)) o0 t (p.from e0) fun d st1 v H1 r1 e1 o1 p1 => ?_
    cases hp : pickD fs d with
    | none =>
      have p1 : PostE X k T σ H1 ((match pickD fs d with
        | some p => bnd (evs r ρ) fun xs => lft (p.2 xs)
        | none => lft .bad) st1) Q W := p1
      rw [hp] at p1
      exact p1.elim
    | some fm =>
      obtain ⟨z, rfl, hz, hp'⟩ := pickD_some hp
      have p1 : PostE X k T σ H1 ((match pickD fs (.int z) with
        | some p => bnd (evs r ρ) fun xs => lft (p.2 xs)
        | none => lft .bad) st1) Q W := p1
      rw [hp] at p1
      have p1 : PostE X k T σ H1 (bnd (evs r ρ) (fun xs => lft (fm.2 xs)) st1) Q W := p1
      obtain ⟨f, hf, pk⟩ := v3 _ _ hp'
      have hH : H1 a0 = some (.lst vs) := e1 a0 _ (fun l => o.none ha0 (o.loc _ l)) (upd_same ..)
      refine ⟨a0, vs, z, .ref f, rfl, r1.int_inv, .of hH, ?_, f, fm.2, rfl, pk, ?_⟩
      · rw [← Int.toNat_of_nonneg hz]; exact L2.atI_nat hf
      · refine ha.thenN (n.right.next ((o.extT e0).trans (o0.extT e1))) o1 t p1 fun ds st2 vs2 H2 hl2 r2 e2 o2 p2 => ?_
        refine ⟨by rw [← r2.length, hl2], T, ds, o2.dom, r2, ?_⟩
        cases q : fm.2 ds with
        | ok d2 => rw [q] at p2; exact fun v H' rv' e' => PostE.ret p2 v H' rv' (.of_no e') (o2.relNo e')
        | exc x l => rw [q] at p2; exact fun cls dx H' hx e' => p2 cls dx H' hx (.of_no e')
        | bad => rw [q] at p2; exact p2
  · subst ey
    obtain rfl : u = Value.ref f := ry
    refine PySem.W.callWith_K (h₀ := X.base) I1.ok.mod.kin kp (thn ((pa_w (X := X)).run pos pins s1 σ H1 _ I1 q) fun us s2 ⟨vs, H2, I2, r, q2⟩ => ⟨I2.kIn, ?_⟩) (star_cons hk'.1 _ _) (back_ok _ _ hk'.2)
    exact run_fnS (E := WE W) F hr hb (passAt t σ) I2 r q2

/-! ### a number of a dict of the module -/
def GDictOk (G : GX) (x : Str) (kvs : List (Int × Int)) : Prop := ∃ a, G.mg x = some (.ref a) ∧ kdiB G.K a kvs = true
theorem subGD_nx {kvs : List (Int × Int)} {x : PyData} {n : Str} {l : List PyData} (h : subGD kvs x = .exc n l) : False := by
  unfold subGD at h
  split at h <;> first | (cases h; done) | (split at h <;> cases h)
theorem se_subG {x : Str} {kvs : List (Int × Int)} {p1 : Pos} (hg : Gl X x) (hd : (x == ("__debug__" : Str)) = false) (h : GDictOk (gx X) x kvs) (ha : SE X k a ea) (hk : okE ea = true) : SE X k (.subG x kvs a) (.Subscript (.Name x p1) ea pos) := fun T ρ st σ H Q W n o t p => by
  obtain ⟨ad, hm, hb⟩ := h
  refine (pe_ix (r := rIxI X kvs) ix_kdi (pe_glob hg hm (v := V.ref ad) rfl hd) pe_w (ix_ok hk)).w ?_
  show wE X ea σ H fun y H2 => rIxI X kvs (.ref ad) y H2 Q
  refine ha.then n o t p fun d st1 v H1 r1 e1 o1 p1 => ?_
  obtain ⟨r, hr, q⟩ := p1.there fun n l => subGD_nx
  exact ⟨ad, T, d, r, rfl, hb, r1, hr, fun w H' rw' e' => q w H' rw' (.of_no e') (o1.relNo e')⟩

/-! ### len(set(x)) -/
theorem once_map : ∀ (ks acc : List Key), (ks.map kD).foldl (fun a d => if a.any (fun x => PyData.eqv x d) = true then a else a ++ [d]) (acc.map kD) = (onceK acc ks).map kD
  | [], acc => rfl
  | k :: ks, acc => by
    rw [List.map_cons, List.foldl_cons]
    have e : ((acc.map kD).any fun x => PyData.eqv x (kD k)) = acc.any fun x => decide (x = k) := by
      rw [List.any_map]
      congr 1
      funext x
      exact kD_eqv x k
    rw [e]
    show _ = (onceK (if acc.any (fun x => decide (x = k)) = true then acc else acc ++ [k]) ks).map kD
    rw [← once_map ks]
    congr 1
    split <;> simp
theorem is_lenSet {p p2 pos pos2 : Pos} (hc : X.calm = true) (hg : Gl X "len") (hm : X.mg "len" = none) (hg2 : Gl X "set") (hm2 : X.mg "set" = none) (hk : okE ea = true) : Is1 X .lenSet ea (.Call (.Name "len" p) [.Call (.Name "set" p2) [ea] [] pos2] [] pos) := by
  have na : starEach [ea] X.env = (false, eval ea X.env) :: starEach [] X.env := star_cons hk _ _
  refine ⟨fun pins s σ H Q I h => ?_⟩
  refine Call_ (ld_blt I hg hm PySem.boot_len (PyProof.Rows.callWith_builtin1 (PyProof.Rows.args_cons (Call_ (ld_blt I hg2 hm2 PyProof.Rows.boot_set (PyProof.Rows.callWith_type1 (PyProof.Rows.args_cons (thn (pe_w.run pins s σ H _ I h) fun v s1 hv => PyProof.Rows.args_nil ?_) na) na rfl))) rfl) rfl rfl))
  obtain ⟨x, H1, I1, r1, T, dx, d, dm, hx, hd, a⟩ := hv
  unfold op1D at hd
  split at hd
  · rename_i e; cases e
  · rename_i e; cases e
  · rename_i e; cases e
  · rename_i e; cases e
  · rename_i ds _
    split at hd
    · rename_i hz
      cases hd
      obtain ⟨l, xs, rfl, n, hp, z, rr⟩ := hx.list_inv
      obtain rfl : v = Value.ref l := r1
      obtain ⟨ks, rfl, rfl⟩ := keyD_all hz.1 rr
      obtain ⟨its, rv, pl, _⟩ := I1.list (.of hp)
      have hl : its.length = ks.length := by rw [← rv.length, List.length_map]
      have hlk : ks.length ≤ 4000 := by simpa using hz.2
      have once : onceD (ks.map kD) = (onceK [] ks).map kD := once_map ks []
      refine call_set_keys (I1.ok.hd hc) pl.isList (fun j k w hj hw => ?_) hl (by unfold scanBound; omega) fun h' tk hS hkp => ?_
      · obtain ⟨u, hu, ru⟩ := rv.get (i := j) (x := kV k) (by simp [hj])
        rw [hw] at hu; cases hu
        exact kV_is (P := X.prog) (w := X.w) ru
      · refine PyProof.Rows.args_nil ?_
        obtain ⟨o, es, ep, t, ho, hex, hd, _, _, _, hf, hn⟩ := hS
        have hon := onceK_len ks []
        have I2 : Inv X pins σ H1 { s1 with heap := h', toks := tk } := I1.kept fun b o e => hkp b o (Heap.lt_size e) e
        refine call_len_set ho hex hd hf (by rw [hn]; simp at hon; omega) ⟨.int ((onceK [] ks).length : Nat), H1, I2.tok _, ⟨_, by rw [hn]⟩, ?_⟩
        have a : Ans X T (.int ((onceD (ks.map kD)).length : Nat)) Q H1 := a
        rw [once, List.length_map] at a
        exact a _ _ .mkInt .refl
    · cases hd
  · cases hd
/-! ### repr(x) -/
theorem reprD_nx {x : PyData} {n : Str} {l : List PyData} (h : reprD x = .exc n l) : False := by
  unfold reprD at h
  split at h <;> cases h
def rRepr (X : Cx) : List V → Hp → VK → Prop := fun vs H Q => ∃ T x v d, vs = [v] ∧ Rep T H x v ∧ reprD x = .ok d ∧ ∀ w H', Rep T H' d w → Ext NoT H H' → Q w H'
theorem call_reprD (hg : X.A.guards = some []) (hu : X.A.units + 100 < cLine) : CallR X (.builtin "repr") (rRepr X) := by
  intro pins s σ H vs us Q I r h
  obtain ⟨T, x, v, d, rfl, hx, hd, q⟩ := h
  unfold reprD at hd
  split at hd
  · rename_i hz
    cases hd
    obtain ⟨h1, h2, h3, h4, h5, h6⟩ := hz
    obtain ⟨u, rfl, ru⟩ := vals1 r
    have hr : ∃ a, u = Value.ref a := by
      cases x with
      | list ds => obtain ⟨a, xs, rfl, _⟩ := hx.list_inv; exact ⟨a, ru⟩
      | tuple ds => obtain ⟨a, xs, rfl, _⟩ := hx.tuple_inv; exact ⟨a, ru⟩
      | _ => cases h1
    obtain ⟨a, rfl⟩ := hr
    obtain ⟨as, rd⟩ := hx.reads I _ _ _ h2 ru
    exact PySem.repr_of_reads' rd h3 (PyData.noDict_hsm h4) hg (by omega) (fun _ _ e => e) (fun h' u tk hk => ⟨.str _, H, I.kept (t' := tk) hk, ⟨u, rfl⟩, q _ _ (.mkStr h6) .refl⟩) h6
  · cases hd
theorem se_repr {p1 : Pos} (hgd : X.A.guards = some []) (w : X.A.units + 200 < cLine) (hg : Gl X "repr") (hm : X.mg "repr" = none) (ha : SE X k a ea) (hk : okE ea = true) : SE X k (.repr a) (.Call (.Name "repr" p1) [ea] [] pos) := fun T ρ st σ H Q W n o t p => by
  refine (pe_callB (call_reprD hgd (by omega)) hg hm (by decide +kernel) (pa_cons pe_w pa_nil (star_cons hk _ _)) (by decide) (by decide) (star_cons hk _ _) rfl).w ?_
  have p : PostE X k T σ H (bnd (ev a ρ) (fun x => lft (reprD x)) st) Q W := p
  refine ha.then n o t p fun x st1 v H1 r1 e1 o1 p1 => ?_
  obtain ⟨d, hd, q⟩ := p1.there fun n l => reprD_nx
  exact ⟨T, x, v, d, rfl, r1, hd, fun w H' rw' e' => q w H' rw' (.of_no e') (o1.relNo e')⟩
end
end Mir

set_option Elab.async false
set_option linter.all false
set_option maxRecDepth 100000
set_option maxHeartbeats 2000000
/-! Mir: enumerate(zip(a, b)) walked. -/
namespace Mir
open PySem PySem.Spec PyProof.Rows L2

/-- a zip, whatever it gave out -/
abbrev IsZipV (h : Heap) (z TI TO : Addr) (v0 : Value) (f : Bool) : Prop :=
  h.get? z = some { cls := .type "zip", dict := none, data := .fields #[v0, .bool f, .bool false, .ref TI, .ref TO], slots := #[] }
def ZSt (h : Heap) (z TI TO : Addr) : Prop := ∃ v0 f, IsZipV h z TI TO v0 f ∧ (v0 = .none ∨ ∃ T : Addr, v0 = rawInt T)
section
variable {prog : Program} {w : World} {A : Around} {E : Value → Shared → Prop} {s : Shared}

theorem dead_addr {a : Addr} {Q : Option Obj → Shared → Prop} (ho : s.heap.get? a = none) (h : Q none s) : wpAny (model prog w) A (loadIfAlive a) Q E s := by
  have h' : Q (s.heap.get? a) s := by rw [ho]; exact h
  exact fun _ _ _ => h'

theorem free_zip {z TI TO : Addr} {v0 : Value} {f : Bool} {Q : Bool → Shared → Prop} (hz : IsZipV s.heap z TI TO v0 f) (hv : v0 = .none ∨ ∃ T : Addr, v0 = rawInt T ∧ s.heap.get? T = none) (h : Q true s) :
    wpAny (model prog w) A (Builtin.SmallTypes.ownedTupleIsFree (.ref z)) Q E s := by
  unfold Builtin.SmallTypes.ownedTupleIsFree
  rcases hv with rfl | ⟨T, rfl, hT⟩
  · exact wpAny_bind (wpAny_field hz rfl (x := .none) rfl (wpAny_pure h))
  · refine wpAny_bind (wpAny_field hz rfl (x := rawInt T) rfl ?_)
    show wpAny _ _ (loadIfAlive ((T : Int).toNat) >>= _) _ _ _
    rw [Int.toNat_natCast]
    refine wpAny_bind (dead_addr hT ?_)
    exact wpAny_pure h

theorem zipF_item {z TI TO i1 i2 l1 l2 : Addr} {k1 k2 : Nat} {xs ys : Array Value} {x y a b : Value} {v0 : Value} {f : Bool} {Q : Value → Shared → Prop} (D : ZipApart z TI TO i1 i2 l1 l2)
    (hz : IsZipV s.heap z TI TO v0 f) (hv : v0 = .none ∨ ∃ T : Addr, v0 = rawInt T ∧ s.heap.get? T = none) (hTI : IsPair s.heap TI (.ref i1) (.ref i2)) (hTO : IsPair s.heap TO a b)
    (h1 : s.heap.IsListIter i1 l1 k1) (h2 : s.heap.IsListIter i2 l2 k2) (hl1 : s.heap.IsList l1 xs) (hl2 : s.heap.IsList l2 ys) (hx : xs[k1]? = some x) (hy : ys[k2]? = some y)
    (hQ : ∀ h', IsZipV h' z TI TO (rawInt s.heap.objs.size) false → IsPair h' TO x y → h'.IsListIter i1 l1 (k1 + 1) → h'.IsListIter i2 l2 (k2 + 1) → IsPair h' s.heap.objs.size x y → h'.objs.size = s.heap.objs.size + 1 →
      (∀ c o, c ≠ z → c ≠ TO → c ≠ i1 → c ≠ i2 → s.heap.get? c = some o → h'.get? c = some o) → Q (.ref s.heap.objs.size) { s with heap := h' }) :
    wpAny (model prog w) A (Builtin.«zip.__next__» ⟨[.ref z], []⟩) (fun fin s' => ∃ v, fin = .done (.ret v) ∧ Q v s') E s := by
  show wpAny _ _ (field (.ref z) 2 >>= _) _ _ _
  refine wpAny_bind (wpAny_field hz rfl (x := .bool false) rfl ?_)
  show wpAny _ _ (field (.ref z) 3 >>= _) _ _ _
  refine wpAny_bind (wpAny_field hz rfl (x := .ref TI) rfl ?_)
  refine wpAny_bind (wpAny_seqItems hTI rfl ?_)
  show wpAny _ _ (Builtin.SmallTypes.ownedTupleIsFree (.ref z) >>= _) _ _ _
  refine wpAny_bind (free_zip hz hv ?_)
  simp only [if_true]
  refine wpAny_bind (wpAny_rule ?_)
  refine wpAny_bind (wpAny_field hz rfl (x := .ref TO) rfl ?_)
  refine wpAny_bind (wpAny_setField_rec hz (by simp) fun h₁ hz₁ hs₁ => ?_)
  replace hz₁ : IsZipV h₁ z TI TO .ellipsis f := hz₁
  refine wpAny_bind ?_
  simp only [List.zipIdx_cons, List.zipIdx_nil, List.forIn_cons, List.forIn_nil]
  refine wpAny_bind (wpAny_bind (wpAny_onRaise ?_))
  show wpAny _ _ (Builtin.SmallTypes.nextOf (.ref i1) >>= _) _ _ _
  refine wpAny_bind (wpAny_nextOf_list_item (h1.extBut hs₁.extBut D.i1z) (hl1.extBut hs₁.extBut D.l1z) hx fun h₂ h1₂ hs₂ => wpAny_pure ?_)
  have hTO₂ : IsPair h₂ TO a b := hs₂.extBut _ _ D.TOi1 (hs₁.extBut _ _ D.TOz hTO)
  refine wpAny_bind (wpAny_seqItems hTO₂ rfl ?_)
  refine wpAny_bind (wpAny_updateSeq_pair hTO₂ fun h₃ hTO₃ hs₃ => ?_)
  replace hTO₃ : IsPair h₃ TO x b := hTO₃
  refine wpAny_bind (wpAny_letGo (wpAny_pure ?_))
  refine wpAny_bind (wpAny_bind (wpAny_onRaise ?_))
  show wpAny _ _ (Builtin.SmallTypes.nextOf (.ref i2) >>= _) _ _ _
  refine wpAny_bind (wpAny_nextOf_list_item (((h2.extBut hs₁.extBut D.i2z).extBut hs₂.extBut D.i12.symm).extBut hs₃.extBut D.TOi2.symm)
    (((hl2.extBut hs₁.extBut D.l2z).extBut hs₂.extBut D.l2i1).extBut hs₃.extBut D.l2TO) hy fun h₄ h2₄ hs₄ => wpAny_pure ?_)
  have hTO₄ : IsPair h₄ TO x b := hs₄.extBut _ _ D.TOi2 hTO₃
  refine wpAny_bind (wpAny_seqItems hTO₄ rfl ?_)
  refine wpAny_bind (wpAny_updateSeq_pair hTO₄ fun h₅ hTO₅ hs₅ => ?_)
  replace hTO₅ : IsPair h₅ TO x y := hTO₅
  refine wpAny_bind (wpAny_letGo (wpAny_pure (wpAny_pure ?_)))
  refine wpAny_bind (wpAny_seqItems hTO₅ rfl ?_)
  refine wpAny_bind (wpAny_newTuple ?_)
  have hsz : h₅.objs.size = s.heap.objs.size := by rw [hs₅.1, hs₄.1, hs₃.1, hs₂.1, hs₁.1]
  have hz₅ : IsZipV h₅ z TI TO .ellipsis f := hs₅.extBut _ _ D.TOz.symm (hs₄.extBut _ _ D.i2z.symm (hs₃.extBut _ _ D.TOz.symm (hs₂.extBut _ _ D.i1z.symm hz₁)))
  have hk₅ : ∀ c o, c ≠ z → c ≠ TO → c ≠ i1 → c ≠ i2 → s.heap.get? c = some o → h₅.get? c = some o := fun c o c1 c2 c3 c4 e =>
    hs₅.extBut _ _ c2 (hs₄.extBut _ _ c4 (hs₃.extBut _ _ c2 (hs₂.extBut _ _ c3 (hs₁.extBut _ _ c1 e))))
  have h1₅ : h₅.IsListIter i1 l1 (k1 + 1) := ((h1₂.extBut hs₃.extBut D.TOi1.symm).extBut hs₄.extBut D.i12).extBut hs₅.extBut D.TOi1.symm
  have h2₅ : h₅.IsListIter i2 l2 (k2 + 1) := h2₄.extBut hs₅.extBut D.TOi2.symm
  have hzlt : z < h₅.objs.size := Heap.lt_size hz₅
  show wpAny _ _ (Builtin.SmallTypes.ownedTupleHandOut (.ref z) (.ref h₅.objs.size) >>= _) _ _ _
  refine wpAny_bind ?_
  unfold Builtin.SmallTypes.ownedTupleHandOut
  have hz₆ : IsZipV (h₅.push { cls := .type "tuple", data := .seq #[x, y] }) z TI TO .ellipsis f := Heap.get?_push_of_some _ hz₅
  refine wpAny_bind (wpAny_setField_rec hz₆ (by simp) fun h₇ hz₇ hs₇ => ?_)
  replace hz₇ : IsZipV h₇ z TI TO (rawInt h₅.objs.size) f := hz₇
  refine wpAny_setField_rec hz₇ (by simp) fun h₈ hz₈ hs₈ => ?_
  replace hz₈ : IsZipV h₈ z TI TO (rawInt h₅.objs.size) false := hz₈
  have up : ∀ c o, c ≠ z → h₅.get? c = some o → h₈.get? c = some o := fun c o c1 e => hs₈.extBut _ _ c1 (hs₇.extBut _ _ c1 (Heap.get?_push_of_some _ e))
  have hT₈ : IsPair h₈ h₅.objs.size x y := hs₈.extBut _ _ (Nat.ne_of_gt hzlt) (hs₇.extBut _ _ (Nat.ne_of_gt hzlt) (Heap.get?_push_size _ rfl))
  have hz8 : h₈.objs.size = h₅.objs.size + 1 := by rw [hs₈.1, hs₇.1, Heap.size_push]
  rw [hsz] at hz₈ hT₈ hz8
  refine wpAny_pure ⟨_, rfl, ?_⟩
  show Q (.ref h₅.objs.size) _
  rw [hsz]
  exact hQ h₈ hz₈ (up _ _ D.TOz hTO₅) (h1₅.at fun o e => up _ o D.i1z e) (h2₅.at fun o e => up _ o D.i2z e) hT₈ hz8 fun c o c1 c2 c3 c4 e => up c o c1 (hk₅ c o c1 c2 c3 c4 e)

theorem zipF_end {z TI TO i1 i2 l1 l2 : Addr} {k1 k2 : Nat} {xs ys : Array Value} {a b : Value} {v0 : Value} {f : Bool} {Q : Fin → Shared → Prop} (hh : A.handled = none) (D : ZipApart z TI TO i1 i2 l1 l2)
    (hz : IsZipV s.heap z TI TO v0 f) (hv : v0 = .none ∨ ∃ T : Addr, v0 = rawInt T ∧ s.heap.get? T = none) (hTI : IsPair s.heap TI (.ref i1) (.ref i2)) (hTO : IsPair s.heap TO a b)
    (h1 : s.heap.IsListIter i1 l1 k1) (h2 : s.heap.IsListIter i2 l2 k2) (hl1 : s.heap.IsList l1 xs) (hl2 : s.heap.IsList l2 ys) (hend : xs[k1]? = none ∨ ys[k2]? = none)
    (hE : ∀ h' e, (∀ c o, c ≠ z → c ≠ TO → c ≠ i1 → c ≠ i2 → s.heap.get? c = some o → h'.get? c = some o) → (∃ o, h'.get? e = some o ∧ o.cls = .type "StopIteration") → E (.ref e) { s with heap := h' }) :
    wpAny (model prog w) A (Builtin.«zip.__next__» ⟨[.ref z], []⟩) Q E s := by
  show wpAny _ _ (field (.ref z) 2 >>= _) _ _ _
  refine wpAny_bind (wpAny_field hz rfl (x := .bool false) rfl ?_)
  show wpAny _ _ (field (.ref z) 3 >>= _) _ _ _
  refine wpAny_bind (wpAny_field hz rfl (x := .ref TI) rfl ?_)
  refine wpAny_bind (wpAny_seqItems hTI rfl ?_)
  show wpAny _ _ (Builtin.SmallTypes.ownedTupleIsFree (.ref z) >>= _) _ _ _
  refine wpAny_bind (free_zip hz hv ?_)
  simp only [if_true]
  refine wpAny_bind (wpAny_rule ?_)
  refine wpAny_bind (wpAny_field hz rfl (x := .ref TO) rfl ?_)
  refine wpAny_bind (wpAny_setField_rec hz (by simp) fun h₁ hz₁ hs₁ => ?_)
  replace hz₁ : IsZipV h₁ z TI TO .ellipsis f := hz₁
  refine wpAny_bind ?_
  simp only [List.zipIdx_cons, List.zipIdx_nil, List.forIn_cons, List.forIn_nil]
  refine wpAny_bind (wpAny_bind (wpAny_onRaise ?_))
  show wpAny _ _ (Builtin.SmallTypes.nextOf (.ref i1) >>= _) _ _ _
  cases hx : xs[k1]? with
  | none =>
    refine wpAny_bind (wpAny_nextOf_list_end hh (h1.extBut hs₁.extBut D.i1z) (hl1.extBut hs₁.extBut D.l1z) hx fun h₂ e hs₂ he => ?_)
    obtain ⟨oe, hoe, hce⟩ := he
    have hz₂ : IsZipV h₂ z TI TO .ellipsis f := hs₂ _ _ D.i1z.symm hz₁
    have hez : e ≠ z := fun x => by subst x; rw [hz₂] at hoe; cases hoe; simp at hce
    refine wpAny_setField_rec hz₂ (by simp) fun h₃ _ hs₃ => hE h₃ e (fun c o c1 _ c3 _ x => hs₃.extBut _ _ c1 (hs₂ _ _ c3 (hs₁.extBut _ _ c1 x))) ⟨oe, hs₃.extBut _ _ hez hoe, hce⟩
  | some x =>
    have hy : ys[k2]? = none := by rcases hend with h | h; rw [hx] at h; cases h; exact h
    refine wpAny_bind (wpAny_nextOf_list_item (h1.extBut hs₁.extBut D.i1z) (hl1.extBut hs₁.extBut D.l1z) hx fun h₂ h1₂ hs₂ => wpAny_pure ?_)
    have hTO₂ : IsPair h₂ TO a b := hs₂.extBut _ _ D.TOi1 (hs₁.extBut _ _ D.TOz hTO)
    refine wpAny_bind (wpAny_seqItems hTO₂ rfl ?_)
    refine wpAny_bind (wpAny_updateSeq_pair hTO₂ fun h₃ hTO₃ hs₃ => ?_)
    refine wpAny_bind (wpAny_letGo (wpAny_pure ?_))
    refine wpAny_bind (wpAny_bind (wpAny_onRaise ?_))
    show wpAny _ _ (Builtin.SmallTypes.nextOf (.ref i2) >>= _) _ _ _
    refine wpAny_bind (wpAny_nextOf_list_end hh (((h2.extBut hs₁.extBut D.i2z).extBut hs₂.extBut D.i12.symm).extBut hs₃.extBut D.TOi2.symm)
      (((hl2.extBut hs₁.extBut D.l2z).extBut hs₂.extBut D.l2i1).extBut hs₃.extBut D.l2TO) hy fun h₄ e hs₄ he => ?_)
    obtain ⟨oe, hoe, hce⟩ := he
    have hz₄ : IsZipV h₄ z TI TO .ellipsis f := hs₄ _ _ D.i2z.symm (hs₃.extBut _ _ D.TOz.symm (hs₂.extBut _ _ D.i1z.symm hz₁))
    have hez : e ≠ z := fun x => by subst x; rw [hz₄] at hoe; cases hoe; simp at hce
    refine wpAny_setField_rec hz₄ (by simp) fun h₅ _ hs₅ => hE h₅ e (fun c o c1 c2 c3 c4 x => hs₅.extBut _ _ c1 (hs₄ _ _ c4 (hs₃.extBut _ _ c2 (hs₂.extBut _ _ c3 (hs₁.extBut _ _ c1 x))))) ⟨oe, hs₅.extBut _ _ hez hoe, hce⟩

/-- next(zip), whatever it gave out -/
theorem nextOf_zip {z TI TO i1 i2 l1 l2 : Addr} {k1 k2 : Nat} {xs ys : Array Value} {x y : Value} {Q : Value → Shared → Prop} (D : ZipApart z TI TO i1 i2 l1 l2)
    (hz : ZSt s.heap z TI TO) (hTI : IsPair s.heap TI (.ref i1) (.ref i2)) (hTO : ∃ a b, IsPair s.heap TO a b)
    (h1 : s.heap.IsListIter i1 l1 k1) (h2 : s.heap.IsListIter i2 l2 k2) (hl1 : s.heap.IsList l1 xs) (hl2 : s.heap.IsList l2 ys) (hx : xs[k1]? = some x) (hy : ys[k2]? = some y)
    (hQ : ∀ h', ZSt h' z TI TO → (∃ a b, IsPair h' TO a b) → h'.IsListIter i1 l1 (k1 + 1) → h'.IsListIter i2 l2 (k2 + 1) → IsPair h' s.heap.objs.size x y → h'.objs.size = s.heap.objs.size + 1 →
      (∀ c o, c ≠ z → c ≠ TO → c ≠ i1 → c ≠ i2 → s.heap.get? c = some o → h'.get? c = some o) → Q (.ref s.heap.objs.size) { s with heap := h' }) :
    wpAny (model prog w) A (Builtin.SmallTypes.nextOf (.ref z)) Q E s := by
  obtain ⟨v0, f, hz, hv⟩ := hz
  obtain ⟨a, b, hTO⟩ := hTO
  have hT : s.TypeIs (.ref z) "zip" := ⟨_, hz, rfl⟩
  unfold Builtin.SmallTypes.nextOf
  refine wpAny_bind (wpAny_callSpecial?_slot (name := Str.ofString "__next__") hT F.slot_zip_next
    (wpAny_call_entry F.slot_zip_next hT F.entry_zip_next ?_ (F.args_zip_next_1 _)))
  have key : (v0 = .none ∨ ∃ T : Addr, v0 = rawInt T ∧ s.heap.get? T = none) ∨ ∃ (T : Addr) (o : Obj), v0 = rawInt T ∧ s.heap.get? T = some o := by
    rcases hv with h | ⟨T, h⟩
    · exact .inl (.inl h)
    · cases q : s.heap.get? T with
      | none => exact .inl (.inr ⟨T, h, q⟩)
      | some o => exact .inr ⟨T, o, h, q⟩
  rcases key with hf | ⟨T, o, rfl, hT⟩
  · exact zipF_item D hz hf hTI hTO h1 h2 hl1 hl2 hx hy fun h' a1 a2 a3 a4 a5 a6 a7 => wpAny_pure (hQ h' ⟨_, _, a1, .inr ⟨_, rfl⟩⟩ ⟨_, _, a2⟩ a3 a4 a5 a6 a7)
  · exact zip_next_item_held D hz hT hTI h1 h2 hl1 hl2 hx hy fun h' a1 a3 a4 a5 a6 a7 => wpAny_pure (hQ h' ⟨_, _, a1, .inr ⟨_, rfl⟩⟩ ⟨a, b, a7 _ _ D.TOz D.TOi1 D.TOi2 hTO⟩ a3 a4 a5 a6 fun c o c1 _ c3 c4 => a7 c o c1 c3 c4)
theorem nextOf_zip_end {z TI TO i1 i2 l1 l2 : Addr} {k1 k2 : Nat} {xs ys : Array Value} {Q : Value → Shared → Prop} (hh : A.handled = none) (D : ZipApart z TI TO i1 i2 l1 l2)
    (hz : ZSt s.heap z TI TO) (hTI : IsPair s.heap TI (.ref i1) (.ref i2)) (hTO : ∃ a b, IsPair s.heap TO a b)
    (h1 : s.heap.IsListIter i1 l1 k1) (h2 : s.heap.IsListIter i2 l2 k2) (hl1 : s.heap.IsList l1 xs) (hl2 : s.heap.IsList l2 ys) (hend : xs[k1]? = none ∨ ys[k2]? = none)
    (hE : ∀ h' e, (∀ c o, c ≠ z → c ≠ TO → c ≠ i1 → c ≠ i2 → s.heap.get? c = some o → h'.get? c = some o) → (∃ o, h'.get? e = some o ∧ o.cls = .type "StopIteration") → E (.ref e) { s with heap := h' }) :
    wpAny (model prog w) A (Builtin.SmallTypes.nextOf (.ref z)) Q E s := by
  obtain ⟨v0, f, hz, hv⟩ := hz
  obtain ⟨a, b, hTO⟩ := hTO
  have hT : s.TypeIs (.ref z) "zip" := ⟨_, hz, rfl⟩
  unfold Builtin.SmallTypes.nextOf
  refine wpAny_bind (wpAny_callSpecial?_slot (name := Str.ofString "__next__") hT F.slot_zip_next
    (wpAny_call_entry F.slot_zip_next hT F.entry_zip_next ?_ (F.args_zip_next_1 _)))
  have key : (v0 = .none ∨ ∃ T : Addr, v0 = rawInt T ∧ s.heap.get? T = none) ∨ ∃ (T : Addr) (o : Obj), v0 = rawInt T ∧ s.heap.get? T = some o := by
    rcases hv with h | ⟨T, h⟩
    · exact .inl (.inl h)
    · cases q : s.heap.get? T with
      | none => exact .inl (.inr ⟨T, h, q⟩)
      | some o => exact .inr ⟨T, o, h, q⟩
  rcases key with hf | ⟨T, o, rfl, hT⟩
  · exact zipF_end hh D hz hf hTI hTO h1 h2 hl1 hl2 hend hE
  · exact zip_next_end_held hh D hz hT hTI h1 h2 hl1 hl2 hend fun h' e hk => hE h' e fun c o c1 _ c3 c4 => hk c o c1 c3 c4

/-- next(enumerate(..)), whatever is within -/
theorem enum_any_item {e it : Addr} {c : Int} {x old : Value} {N : Nat} {St : Heap → Prop} {Q : Value → Shared → Prop} (hel : e < N)
    (hst : ∀ h h', St h → (∀ b o, b ≠ e → h.get? b = some o → h'.get? b = some o) → St h') (he : IsEnum s.heap e it c old)
    (hin : ∀ (A' : Around) (E : Value → Shared → Prop) (Q' : Value → Shared → Prop), (∀ h₁, St h₁ → IsEnum h₁ e it c old → h₁.objs.size = N → Q' x { s with heap := h₁ }) → wpAny (model prog w) A' (Builtin.SmallTypes.nextOf (.ref it)) Q' E s)
    (hQ : ∀ h', IsEnumOut h' e it (c + 1) x N → St h' → h'.get? N = some { cls := .type "tuple", data := .seq #[.int c s.toks, x] } → h'.objs.size = N + 1 → Q (.ref N) { s with heap := h', toks := s.toks + 1 }) :
    wpAny (model prog w) A (Builtin.«enumerate.__next__» ⟨[.ref e], []⟩) (fun fin s' => ∃ v, fin = .done (.ret v) ∧ Q v s') E s := by
  obtain ⟨hp, g, d, tk, os⟩ := s
  show wpAny _ _ (field (.ref e) 2 >>= _) _ _ _
  refine wpAny_bind (wpAny_field he rfl (x := .ref it) rfl ?_)
  refine wpAny_bind (hin _ _ _ fun h₁ st₁ he₁ hz₁ => ?_)
  show wpAny _ _ (field (.ref e) 3 >>= _) _ _ ⟨h₁, g, d, tk, os⟩
  refine wpAny_bind (wpAny_field he₁ rfl (x := rawInt c) rfl ?_)
  show wpAny _ _ (field (.ref e) 4 >>= _) _ _ ⟨h₁, g, d, tk, os⟩
  refine wpAny_bind (wpAny_field he₁ rfl (x := .none) rfl ?_)
  show wpAny _ _ (mkInt c >>= _) _ _ ⟨h₁, g, d, tk, os⟩
  refine wpAny_bind (wpAny_mkInt ?_)
  show wpAny _ _ (setField (.ref e) 3 (rawInt (c + 1)) >>= _) _ _ ⟨h₁, g, d, tk + 1, os⟩
  refine wpAny_bind (wpAny_setField_rec he₁ (by simp) fun h₂ he₂ hs₂ => ?_)
  replace hs₂ : Heap.SameBut e h₁ h₂ := hs₂
  replace he₂ : IsEnum h₂ e it (c + 1) old := he₂
  show wpAny _ _ (setField (.ref e) 4 .none >>= _) _ _ ⟨h₂, g, d, tk + 1, os⟩
  refine wpAny_bind (wpAny_setField_rec he₂ (by simp) fun h₃ he₃ hs₃ => ?_)
  replace hs₃ : Heap.SameBut e h₂ h₃ := hs₃
  replace he₃ : IsEnum h₃ e it (c + 1) old := he₃
  show wpAny _ _ (newTuple [.int c tk, x] >>= _) _ _ ⟨h₃, g, d, tk + 1, os⟩
  refine wpAny_bind (wpAny_newTuple ?_)
  have hsz : h₃.objs.size = N := by rw [hs₃.1, hs₂.1, hz₁]
  have st₃ : St h₃ := hst _ _ (hst _ _ st₁ fun b o hb q => hs₂.extBut b o hb q) fun b o hb q => hs₃.extBut b o hb q
  have he₄ : IsEnum (h₃.push { cls := .type "tuple", data := .seq #[.int c tk, x] }) e it (c + 1) old := Heap.get?_push_of_some _ he₃
  have st₄ : St (h₃.push { cls := .type "tuple", data := .seq #[.int c tk, x] }) := hst _ _ st₃ fun b o hb q => Heap.get?_push_of_some _ q
  have ht₄ : (h₃.push { cls := .type "tuple", data := .seq #[.int c tk, x] }).get? N = some { cls := .type "tuple", data := .seq #[.int c tk, x] } := by rw [← hsz]; exact Heap.get?_push_size _ rfl
  have hz₄ : (h₃.push { cls := .type "tuple", data := .seq #[.int c tk, x] }).objs.size = N + 1 := by rw [Heap.size_push, hsz]
  generalize hh₄ : h₃.push { cls := .type "tuple", data := .seq #[.int c tk, x] } = h₄ at he₄ st₄ ht₄ hz₄
  show wpAny _ _ (Builtin.SmallTypes.ownedTupleIsFree (.ref e) >>= _) _ _ ⟨h₄, g, d, tk + 1, os⟩
  rw [hsz]
  clear hh₄ he₃ hs₃ he₂ hs₂ he₁ st₁ st₃ hz₁ hsz h₃ h₂ h₁
  have hne : N ≠ e := Nat.ne_of_gt hel
  refine wpAny_bind ?_
  · unfold Builtin.SmallTypes.ownedTupleIsFree
    refine wpAny_bind (wpAny_field he₄ rfl (x := .none) rfl (wpAny_pure ?_))
    simp only [if_true]
    refine wpAny_bind (wpAny_rule ?_)
    refine wpAny_bind (wpAny_field he₄ rfl (x := old) rfl ?_)
    refine wpAny_bind (wpAny_setField_rec he₄ (by simp) fun h₅ he₅ hs₅ => ?_)
    replace hs₅ : Heap.SameBut e h₄ h₅ := hs₅
    replace he₅ : IsEnum h₅ e it (c + 1) x := he₅
    show wpAny _ _ (Builtin.SmallTypes.ownedTupleHandOut (.ref e) (.ref N) >>= _) _ _ ⟨h₅, g, d, tk + 1, os⟩
    refine wpAny_bind ?_
    · unfold Builtin.SmallTypes.ownedTupleHandOut
      refine wpAny_bind (wpAny_setField_rec he₅ (by simp) fun h₆ he₆ hs₆ => ?_)
      replace hs₆ : Heap.SameBut e h₅ h₆ := hs₆
      replace he₆ : IsEnumOut h₆ e it (c + 1) x N := he₆
      refine wpAny_setField_rec he₆ (by simp) fun h₇ he₇ hs₇ => ?_
      replace hs₇ : Heap.SameBut e h₆ h₇ := hs₇
      replace he₇ : IsEnumOut h₇ e it (c + 1) x N := he₇
      have up : ∀ b o, b ≠ e → h₄.get? b = some o → h₇.get? b = some o := fun b o hb q => hs₇.extBut b o hb (hs₆.extBut b o hb (hs₅.extBut b o hb q))
      refine wpAny_bind (wpAny_letGo (wpAny_pure ⟨_, rfl, hQ h₇ he₇ (hst _ _ st₄ up) (up _ _ hne ht₄) ?_⟩))
      rw [hs₇.1, hs₆.1, hs₅.1, hz₄]
theorem pyNext_enum_any {e it : Addr} {c : Int} {x old : Value} {N : Nat} {St : Heap → Prop} {Q : Option Value → Shared → Prop} (hel : e < N)
    (hst : ∀ h h', St h → (∀ b o, b ≠ e → h.get? b = some o → h'.get? b = some o) → St h') (he : IsEnum s.heap e it c old)
    (hin : ∀ (A' : Around) (E : Value → Shared → Prop) (Q' : Value → Shared → Prop), (∀ h₁, St h₁ → IsEnum h₁ e it c old → h₁.objs.size = N → Q' x { s with heap := h₁ }) → wpAny (model prog w) A' (Builtin.SmallTypes.nextOf (.ref it)) Q' E s)
    (hQ : ∀ h', IsEnumOut h' e it (c + 1) x N → St h' → h'.get? N = some { cls := .type "tuple", data := .seq #[.int c s.toks, x] } → h'.objs.size = N + 1 → Q (some (.ref N)) { s with heap := h', toks := s.toks + 1 }) :
    wpAny (model prog w) A (pyNext (.ref e)) Q E s := by
  have hT : s.TypeIs (.ref e) "enumerate" := ⟨_, he, rfl⟩
  unfold pyNext
  exact wpAny_bind (wpAny_attempt (wpAny_callSpecial?_slot (name := Str.ofString "__next__") hT F.slot_enumerate_next
    (wpAny_call_entry F.slot_enumerate_next hT F.entry_enumerate_next
      (enum_any_item hel hst he hin fun h' a b c d => wpAny_pure (hQ h' a b c d)) (F.args_enumerate_next_1 _))))
theorem pyNext_enum_any_end {e it : Addr} {c : Int} {old : Value} {G : Heap → Prop} {Q : Option Value → Shared → Prop} (hh : A.handled = none) (he : IsEnum s.heap e it c old)
    (hin : ∀ (A' : Around) (E : Value → Shared → Prop) (Q' : Value → Shared → Prop), A'.handled = none → (∀ h' x, G h' → (∃ o, h'.get? x = some o ∧ o.cls = .type "StopIteration") → E (.ref x) { s with heap := h' }) → wpAny (model prog w) A' (Builtin.SmallTypes.nextOf (.ref it)) Q' E s)
    (hQ : ∀ h', G h' → Q none { s with heap := h' }) : wpAny (model prog w) A (pyNext (.ref e)) Q E s := by
  have hT : s.TypeIs (.ref e) "enumerate" := ⟨_, he, rfl⟩
  unfold pyNext
  refine wpAny_bind (wpAny_attempt (wpAny_callSpecial?_slot (name := Str.ofString "__next__") hT F.slot_enumerate_next
    (wpAny_call_entry F.slot_enumerate_next hT F.entry_enumerate_next ?_ (F.args_enumerate_next_1 _))))
  show wpAny _ _ (field (.ref e) 2 >>= _) _ _ _
  refine wpAny_bind (wpAny_field he rfl (x := .ref it) rfl ?_)
  refine wpAny_bind (hin _ _ _ hh fun h' x g hx' => ?_)
  obtain ⟨o, ho, hc⟩ := hx'
  refine wpAny_bind (wpAny_isInstance (T := "StopIteration") (b := true) ⟨o, ho, hc⟩ isSubtype_stop ?_)
  exact wpAny_pure (hQ _ g)

set_option maxHeartbeats 4000000 in
/-- enumerate(z), z its own iterator -/
theorem meets_enum_self (z : Addr) (TI TO : Addr) :
    Meets (Builtin.«enumerate.__new__» ⟨[.type "enumerate", .ref z], []⟩) (fun _ R s => IsZip s.heap z TI TO .none ∧
      R (.ok (.ret (.ref s.heap.objs.size))) { s with heap := s.heap.push { cls := .type "enumerate", data := .fields #[.none, .bool false, .ref z, rawInt 0, .none, .none] } }) :=
  .of_wp fun prog w A R s h => by
    obtain ⟨hp, g, d, tk, os⟩ := s; obtain ⟨h1, h⟩ := h
    have hsub := sub_enumerate
    have q1 : ∀ {A' : Around} {E : Value → Shared → Prop} {Q : Value → Shared → Prop}, Q (.ref z) ⟨hp, g, d, tk, os⟩ → wpAny (model prog w) A' (pyIter (.ref z)) Q E ⟨hp, g, d, tk, os⟩ :=
      fun q => wpAny_pyIter_zip h1 q
    wp_walk using q1
    refine wpAny_stack_any fun st => wpAny_pure ?_
    split
    · rename_i c _ _ _ _ _
      cases (c == Value.type "enumerate")
      · wp_walk using q1
        exact ⟨_, rfl, h⟩
      · wp_walk using q1
        exact ⟨_, rfl, h⟩
    · wp_walk using q1
      exact ⟨_, rfl, h⟩
theorem call_enum_self {z TI TO : Addr} {Q : Value → Shared → Prop} (hz : IsZip s.heap z TI TO .none)
    (h : ∀ h', IsEnum h' s.heap.objs.size z 0 .none → h'.objs.size = s.heap.objs.size + 1 → (∀ b o, s.heap.get? b = some o → h'.get? b = some o) → Q (.ref s.heap.objs.size) { s with heap := h' }) :
    wpAny (model prog w) A (call (.type "enumerate") [.ref z]) Q E s := by
  refine callType_new F.called_enumerate (by decide) (F.typeCall_enumerate_1 _) (F.newCall_enumerate_1 _) (fun obj => F.args_object_init_2 obj _) F.entry_enumerate_new
    (meets_enum_self z TI TO) ⟨hz, ?_⟩
  have he : IsEnum (s.heap.push { cls := .type "enumerate", data := .fields #[.none, .bool false, .ref z, rawInt 0, .none, .none] }) s.heap.objs.size z 0 .none := Heap.get?_push_size _ rfl
  exact ⟨⟨_, he, rfl⟩, h _ he (by rw [Heap.size_push]) fun b o x => Heap.get?_push_of_some _ x⟩
end
end Mir

set_option Elab.async false
set_option linter.all false
set_option maxRecDepth 100000
set_option maxHeartbeats 2000000
namespace Mir
open PySem PySem.Spec PyProof.Rows L2
/-- the lists at a and b as they stand at each turn, the count and the items in new pairs -/
def Itez (K : PySem.W.Frag) (a b : Addr) : L2.It :=
  ⟨fun i H => ∃ (xs ys : List V) (x y : V), SqL K H a xs ∧ SqL K H b ys ∧ xs[i]? = some x ∧ ys[i]? = some y,
    fun i H v H' => ∃ T U x y, v = .ref U ∧ H T = none ∧ H U = none ∧ U ≠ T ∧ H' = upd (upd H T (.tup [x, y])) U (.tup [.int (i : Nat), .ref T]) ∧ (∀ xs, SqL K H a xs → xs[i]? = some x) ∧ ∀ ys, SqL K H b ys → ys[i]? = some y,
    fun i H => ∃ xs ys : List V, SqL K H a xs ∧ SqL K H b ys ∧ (xs.length ≤ i ∨ ys.length ≤ i)⟩
structure EApart (e z TI TO i1 i2 a b : Addr) : Prop where
  d : ZipApart z TI TO i1 i2 a b
  z : e ≠ z
  TI : e ≠ TI
  TO : e ≠ TO
  i1 : e ≠ i1
  i2 : e ≠ i2
  a : e ≠ a
  b : e ≠ b
theorem turn_ez {P : Program} {w : World} {K : PySem.W.Frag} {elts : List Expr} {kk : Nat} {tpos : Pos} {a b e z TI TO i1 i2 : Addr} (D : EApart e z TI TO i1 i2 a b) :
    Turn P w K (.Tuple elts kk tpos) (Itez K a b) [e, z, TI, TO, i1, i2] e (fun i h => (∃ old, IsEnum h e z ((i : Nat) : Int) old) ∧ ZSt h z TI TO ∧ IsPair h TI (.ref i1) (.ref i2) ∧ (∃ x y, IsPair h TO x y) ∧ h.IsListIter i1 a i ∧ h.IsListIter i2 b i) where
  mem := by simp
  obj := fun i h st c hc => by
    obtain ⟨⟨old, he⟩, ⟨v0, f, hz, _⟩, hTI, ⟨x, y, hTO⟩, ⟨o1, e1, _, d1⟩, ⟨o2, e2, _, d2⟩⟩ := st
    have e' : c = e ∨ c = z ∨ c = TI ∨ c = TO ∨ c = i1 ∨ c = i2 := by simpa using hc
    rcases e' with q | q | q | q | q | q
    · rw [q]; exact ⟨_, he, fun v q => nomatch q⟩
    · rw [q]; exact ⟨_, hz, fun v q => nomatch q⟩
    · rw [q]; exact ⟨_, hTI, fun v q => nomatch q⟩
    · rw [q]; exact ⟨_, hTO, fun v q => nomatch q⟩
    · rw [q]; exact ⟨o1, e1, fun v q => by rw [d1] at q; cases q⟩
    · rw [q]; exact ⟨o2, e2, fun v q => by rw [d2] at q; cases q⟩
  keep := fun i h h' st k => by
    obtain ⟨⟨old, he⟩, ⟨v0, f, hz, hv⟩, hTI, ⟨x, y, hTO⟩, h1, h2⟩ := st
    exact ⟨⟨old, k e (by simp) _ he⟩, ⟨v0, f, k z (by simp) _ hz, hv⟩, k TI (by simp) _ hTI, ⟨x, y, k TO (by simp) _ hTO⟩, h1.at fun o q => k i1 (by simp) o q, h2.at fun o q => k i2 (by simp) o q⟩
  item := by
    intro X hP hw hK hc i pins s σ H E I hf st hg
    subst hP hw hK
    obtain ⟨⟨old, he⟩, hz, hTI, hTO, h1, h2⟩ := st
    obtain ⟨xs, ys, x, y, hqx, hqy, hx, hy⟩ := hg
    obtain ⟨its, rv, p, _⟩ := I.list hqx
    obtain ⟨its2, rv2, p2, _⟩ := I.list hqy
    obtain ⟨u, hu, ru⟩ := rv.get hx
    obtain ⟨u2, hu2, ru2⟩ := rv2.get hy
    have hel : e < s.heap.objs.size := Heap.lt_size he
    have hzl : z < s.heap.objs.size := by obtain ⟨_, _, q, _⟩ := hz; exact Heap.lt_size q
    refine pyNext_enum_any (N := s.heap.objs.size + 1) (x := .ref s.heap.objs.size) (St := fun h => ZSt h z TI TO ∧ (∃ a b, IsPair h TO a b) ∧ h.IsListIter i1 a (i + 1) ∧ h.IsListIter i2 b (i + 1) ∧ IsPair h s.heap.objs.size u u2 ∧
      ∀ c o, c ≠ e → c ≠ z → c ≠ TO → c ≠ i1 → c ≠ i2 → s.heap.get? c = some o → h.get? c = some o) (Nat.lt_succ_of_lt hel) (fun h h' st k => ?_) he (fun A' E' Q' hq => ?_) fun h' ho st hT hsz => ?_
    · obtain ⟨⟨v0, f, a1, a2⟩, ⟨x0, y0, a3⟩, a4, a5, a6, a7⟩ := st
      exact ⟨⟨v0, f, k _ _ D.z.symm a1, a2⟩, ⟨x0, y0, k _ _ D.TO.symm a3⟩, a4.at fun o q => k _ o D.i1.symm q, a5.at fun o q => k _ o D.i2.symm q, k _ _ (Nat.ne_of_gt hel) a6, fun c o c0 c1 c2 c3 c4 q => k c o c0 (a7 c o c0 c1 c2 c3 c4 q)⟩
    · exact nextOf_zip D.d hz hTI hTO h1 h2 p.isList p2.isList (by simpa using hu) (by simpa using hu2) fun h₁ a1 a2 a3 a4 a5 a6 a7 =>
        hq h₁ ⟨a1, a2, a3, a4, a5, fun c o _ c1 c2 c3 c4 q => a7 c o c1 c2 c3 c4 q⟩ (a7 _ _ D.z D.TO D.i1 D.i2 he) a6
    · obtain ⟨a1, a2, a3, a4, a5, a6⟩ := st
      refine ⟨_, rfl, wpAny_letOwnedTupleGo_enum (s := { s with heap := h', toks := s.toks + 1 }) ho fun h'' he' sb => ?_⟩
      have nN : s.heap.objs.size ≠ e := Nat.ne_of_gt hel
      have nN1 : s.heap.objs.size + 1 ≠ e := Nat.ne_of_gt (Nat.lt_succ_of_lt hel)
      have hp5 : IsPair h'' s.heap.objs.size u u2 := (sb.2 _ nN).trans a5
      have hT2 : h''.get? (s.heap.objs.size + 1) = some { cls := .type "tuple", data := .seq #[.int i s.toks, .ref s.heap.objs.size] } := (sb.2 _ nN1).trans hT
      have new : ObjOk X.prog X.w (upd H s.heap.objs.size (.tup [x, y])) h'' s.heap.objs.size (.tup [x, y]) :=
        ⟨by show 2 ≤ sizeLine; decide, [u, u2], .cons ru (.cons ru2 .nil), ⟨_, hp5, rfl, _, rfl⟩⟩
      have kk : ∀ c o, c ∉ [e, z, TI, TO, i1, i2] → s.heap.get? c = some o → h''.get? c = some o := fun c o hb q => by
        have n1 : c ≠ e := fun q' => hb (by simp [q'])
        exact (sb.2 c n1).trans (a6 c o n1 (fun q' => hb (by simp [q'])) (fun q' => hb (by simp [q'])) (fun q' => hb (by simp [q'])) (fun q' => hb (by simp [q'])) q)
      have I1 : Inv X pins σ (upd H s.heap.objs.size (.tup [x, y])) { s with heap := h'', toks := s.toks + 1 } :=
        I.turnedNew (ch := [e, z, TI, TO, i1, i2]) kk hf (Nat.le_refl _) new
      have hn : H s.heap.objs.size = none := I.hok.fresh (Nat.le_refl _)
      have hn1 : H (s.heap.objs.size + 1) = none := I.hok.fresh (Nat.le_succ _)
      have nn : s.heap.objs.size + 1 ≠ s.heap.objs.size := Nat.succ_ne_self _
      have hn2 : upd H s.heap.objs.size (.tup [x, y]) (s.heap.objs.size + 1) = none := by rw [upd_ne nn]; exact hn1
      have new2 : ObjOk X.prog X.w (upd (upd H s.heap.objs.size (.tup [x, y])) (s.heap.objs.size + 1) (.tup [.int (i : Nat), .ref s.heap.objs.size])) h'' (s.heap.objs.size + 1) (.tup [.int (i : Nat), .ref s.heap.objs.size]) :=
        ⟨by show 2 ≤ sizeLine; decide, [.int i s.toks, .ref s.heap.objs.size], .cons ⟨_, rfl⟩ (.cons rfl .nil), ⟨_, hT2, rfl, _, rfl⟩⟩
      have I2 : Inv X pins σ (upd (upd H s.heap.objs.size (.tup [x, y])) (s.heap.objs.size + 1) (.tup [.int (i : Nat), .ref s.heap.objs.size])) { s with heap := h'', toks := s.toks + 1 } :=
        I1.take (h' := h'') (t' := s.toks + 1) (fun b ob _ q => q) (I.fpOk (Nat.le_succ _) hn2) new2
      have cells : ∀ c ∈ [e, z, TI, TO, i1, i2], c < s.heap.objs.size := fun c hcm => by
        have e' : c = e ∨ c = z ∨ c = TI ∨ c = TO ∨ c = i1 ∨ c = i2 := by simpa using hcm
        rcases e' with q | q | q | q | q | q
        · rw [q]; exact hel
        · rw [q]; exact hzl
        · rw [q]; exact Heap.lt_size hTI
        · rw [q]; obtain ⟨_, _, q2⟩ := hTO; exact Heap.lt_size q2
        · rw [q]; obtain ⟨_, e1, _⟩ := h1; exact Heap.lt_size e1
        · rw [q]; obtain ⟨_, e2, _⟩ := h2; exact Heap.lt_size e2
      refine ⟨.ref (s.heap.objs.size + 1), _, I2, rfl, ⟨_, _, x, y, rfl, hn, hn1, nn, rfl, fun l hl => by rw [I.list_inj hl hqx]; exact hx, fun l hl => by rw [I.list_inj hl hqy]; exact hy⟩, ⟨⟨.ref s.heap.objs.size, ?_⟩, ?_, ?_, ?_, ?_, ?_⟩, fun c hcm => ?_⟩
      · have e1 : ((i + 1 : Nat) : Int) = (i : Int) + 1 := by omega
        rw [e1]; exact he'
      · obtain ⟨v0, f, q1, q2⟩ := a1
        exact ⟨v0, f, (sb.2 _ D.z.symm).trans q1, q2⟩
      · exact (sb.2 _ D.TI.symm).trans (a6 _ _ D.TI.symm D.d.TIz D.d.TITO D.d.TIi1 D.d.TIi2 hTI)
      · obtain ⟨x0, y0, q⟩ := a2
        exact ⟨x0, y0, (sb.2 _ D.TO.symm).trans q⟩
      · exact a3.at fun o q => (sb.2 _ D.i1.symm).trans q
      · exact a4.at fun o q => (sb.2 _ D.i2.symm).trans q
      · have hlt := cells c hcm
        rw [upd_ne (Nat.ne_of_lt (Nat.lt_succ_of_lt hlt)), upd_ne (Nat.ne_of_lt hlt)]
        exact (hf c hcm).1
  done := by
    intro X hP hw hK hc i pins s σ H E I hf st hg
    subst hP hw hK
    obtain ⟨⟨old, he⟩, hz, hTI, hTO, h1, h2⟩ := st
    obtain ⟨xs, ys, hqx, hqy, hend⟩ := hg
    obtain ⟨its, rv, p, _⟩ := I.list hqx
    obtain ⟨its2, rv2, p2, _⟩ := I.list hqy
    have l1 := rv.length
    have l2 := rv2.length
    have hend' : its.toArray[i]? = none ∨ its2.toArray[i]? = none := by
      rcases hend with q | q
      · exact .inl (by simp; omega)
      · exact .inr (by simp; omega)
    refine pyNext_enum_any_end (G := fun h' => ∀ c o, c ≠ z → c ≠ TO → c ≠ i1 → c ≠ i2 → s.heap.get? c = some o → h'.get? c = some o) (I.ok.hd hc) he (fun A' E' Q' hh hE => ?_) fun h' hk => ?_
    · exact nextOf_zip_end hh D.d hz hTI hTO h1 h2 p.isList p2.isList hend' fun h' e' hk hx => hE h' e' hk hx
    · exact ⟨rfl, I.turnedL (t' := s.toks) (ch := [e, z, TI, TO, i1, i2]) (fun c o hb q => hk c o (fun q' => hb (by simp [q'])) (fun q' => hb (by simp [q'])) (fun q' => hb (by simp [q'])) (fun q' => hb (by simp [q'])) q) hf⟩
  self := fun A i s Q E st h => let ⟨⟨_, he⟩, _⟩ := st; wpAny_pyIter_enum he h

def iEz (K : PySem.W.Frag) (ta : TA) : TI := fun σ H R => ta σ H fun vs H1 => ∃ a b xs ys, vs = [.ref a, .ref b] ∧ SqL K H1 a xs ∧ SqL K H1 b ys ∧ R (Itez K a b) H1
theorem pi_ez {X : Cx} {e e2 : Expr} {ta : TA} {p p2 pos pos2 tpos : Pos} {elts : List Expr} {kk : Nat} (hg : Gl X "enumerate") (hm : X.mg "enumerate" = none) (hg2 : Gl X "zip") (hm2 : X.mg "zip" = none) (ha : PA X [e, e2] ta)
    (hs : starEach [e, e2] X.env = (false, eval e X.env) :: starEach [e2] X.env := by rfl) (hpl : (backTo pos2 (starEach [e2] X.env)).any (·.1) = false := by rfl) :
    PI X (.Tuple elts kk tpos) (.Call (.Name "enumerate" p) [.Call (.Name "zip" p2) [e, e2] [] pos2] [] pos) (iEz X.K ta) := by
  refine ⟨fun pins s σ H R I h => ?_⟩
  refine Call_ (ld_blt I hg hm boot_enumerate (PyProof.Rows.callWith_type1 ?_ rfl rfl))
  show wpAny _ _ (spliced ((false, eval (.Call (.Name "zip" p2) [e, e2] [] pos2) X.env) :: backTo pos (starEach [] X.env))) _ _ s
  refine Calls.spliced_cons ?_
  refine Call_ (ld_blt I hg2 hm2 PyProof.Rows.boot_zip (PyProof.Rows.callWith_type1 (thn (ha.run pos2 pins s σ H _ I h) fun us s1 ⟨vs, H1, I1, r1, q1⟩ => ?_) hs hpl))
  obtain ⟨a, b, xs, ys, ex, hqx, hqy, q⟩ := q1
  subst ex
  cases r1 with
  | cons r rr =>
    cases rr with
    | cons r' rr =>
      cases rr
      cases r
      cases r'
      obtain ⟨its, rv, p1, _⟩ := I1.list hqx
      obtain ⟨its2, rv2, p2, _⟩ := I1.list hqy
      have la : a < s1.heap.objs.size := p1.lt
      have lb : b < s1.heap.objs.size := p2.lt
      refine call_zip_2 p1.isList p2.isList fun h' hz hTI hTO h1 h2 hsz hk => ?_
      refine wpAny_pure ?_
      have I2 : Inv X pins σ H1 { s1 with heap := h' } := I1.kept (t' := s1.toks) hk
      refine call_enum_self (s := { s1 with heap := h' }) hz fun h'' he hsz2 hk2 => wpAny_pyIter_enum he ?_
      have I3 : Inv X pins σ H1 { s1 with heap := h'' } := I2.kept (t' := s1.toks) hk2
      have eN : h'.objs.size = s1.heap.objs.size + 5 := hsz
      have ap := PySem.W.ktu_apart s1.heap.objs.size a b la lb
      have ne : ∀ c, c < s1.heap.objs.size + 5 → h'.objs.size ≠ c := fun c hc => by rw [eN]; exact Nat.ne_of_gt hc
      refine ⟨h'.objs.size, [h'.objs.size, s1.heap.objs.size + 4, s1.heap.objs.size + 2, s1.heap.objs.size + 3, s1.heap.objs.size, s1.heap.objs.size + 1], _, _, H1, rfl, I3, turn_ez (a := a) (b := b) ⟨ap, ne _ (Nat.lt_succ_self _), ne _ (Nat.add_lt_add_left (by decide) _), ne _ (Nat.add_lt_add_left (by decide) _), ne _ (Nat.lt_add_of_pos_right (by decide)), ne _ (Nat.add_lt_add_left (by decide) _), ne _ (Nat.lt_of_lt_of_le la (Nat.le_add_right _ _)), ne _ (Nat.lt_of_lt_of_le lb (Nat.le_add_right _ _))⟩,
        ⟨⟨.none, he⟩, ⟨_, _, hk2 _ _ hz, .inl rfl⟩, hk2 _ _ hTI, ⟨_, _, hk2 _ _ hTO⟩, h1.at fun o q => hk2 _ o q, h2.at fun o q => hk2 _ o q⟩, fun c hcm => ?_, q⟩
      have hle : s1.heap.objs.size ≤ c := by
        have e' : c = h'.objs.size ∨ c = s1.heap.objs.size + 4 ∨ c = s1.heap.objs.size + 2 ∨ c = s1.heap.objs.size + 3 ∨ c = s1.heap.objs.size ∨ c = s1.heap.objs.size + 1 := by simpa using hcm
        rcases e' with z | z | z | z | z | z
        · rw [z, eN]; exact Nat.le_add_right _ _
        · rw [z]; exact Nat.le_add_right _ _
        · rw [z]; exact Nat.le_add_right _ _
        · rw [z]; exact Nat.le_add_right _ _
        · rw [z]; exact Nat.le_refl _
        · rw [z]; exact Nat.le_add_right _ _
      exact I1.fpOk hle (I1.hok.fresh hle)
end Mir

set_option Elab.async false
set_option linter.all false
set_option maxRecDepth 100000
set_option maxHeartbeats 3200000
/-! Mir, part Z2: sorted(set(xs)), the items numbers. -/
namespace Mir
open PySem PySem.Spec PyProof.Rows L2
section
variable {P : Program} {w : World} {A : Around} {E : Value → Shared → Prop} {s : Shared} {a : Addr}
theorem call_set_lstI {l : Addr} {items : Array Value} (ns : List Int) {Q : Value → Shared → Prop} (hh : A.handled = none) (hl : s.heap.IsList l items) (hit : IntsAre items.toList ns) (hb : ns.length + 1 < scanBound)
    (h : ∀ (h' : Heap) (tk c : Nat), SetR w h' s.heap.objs.size (fun j => decide (j ∈ ns)) c → c ≤ ns.length → (∀ b o, s.heap.get? b = some o → h'.get? b = some o) → Q (.ref s.heap.objs.size) { s with heap := h', toks := tk }) :
    wpAny (model P w) A (call (.type "set") [.ref l]) Q E s := by
  have hisz : items.size = ns.length := by
    have q := IntsAre.length hit
    rw [Array.length_toList] at q
    exact q
  obtain ⟨c, tl, hmro⟩ := F.called_set.mro
  have hmade := F.called_set.made
  have hsub := F.called_set.sub
  refine wpAny_call (codeAny_of_tree ?_)
  show wpAny _ _ (callAny (.type "set") _) _ _ _
  refine wpAny_pure ⟨Code.quiet_builtin _ (by decide +kernel), codeAny_builtin F.entry_type_call ?_⟩
  rw [Around.under_plain (weight_type_call_type "set" [.ref l] []) rfl]
  have h1 := F.called_set.notType
  have h2 := F.called_set.canCreate
  have hct := F.typeCall_set_1 (.ref l)
  repeat (any_goals (first | assumption | wp_step))

  refine codeAny_mono (code_set_led1 (.ref l) (E := E) (Q₁ := fun obj s₁ => obj = .ref s.heap.objs.size ∧ s₁ = { s with heap := s.heap.push { cls := .type "set", dict := none, data := .set #[] 0 (.fresh 0 0 (!w.params.followText "set-order")) } }) ⟨rfl, rfl⟩) fun r s₁ hr => ?_
  cases r with
  | error e => exact hr
  | ok fl =>
    cases fl with
    | ret obj =>
      obtain ⟨rfl, rfl⟩ := hr
      have hS : (s.heap.push { cls := .type "set", dict := none, data := .set #[] 0 (.fresh 0 0 (!w.params.followText "set-order")) }).get? s.heap.objs.size = some { cls := .type "set", dict := none, data := .set #[] 0 (.fresh 0 0 (!w.params.followText "set-order")) } := Heap.get?_push_size _ rfl
      have hT : Shared.TypeIs { s with heap := s.heap.push { cls := .type "set", dict := none, data := .set #[] 0 (.fresh 0 0 (!w.params.followText "set-order")) } } (.ref s.heap.objs.size) "set" := ⟨_, hS, rfl⟩
      have hli := F.called_set.init.lookup
      have hbi := F.called_set.init.bind (.ref s.heap.objs.size)
      repeat (any_goals (first | assumption | wp_step))

      refine codeAny_mono (codeAny_call_builtin (R := wants (fun r s₂ => r = .none ∧ ∃ h' tk c, s₂ = { s with heap := h', toks := tk } ∧ SetR w h' s.heap.objs.size (fun j => decide (j ∈ ns)) c ∧ c ≤ ns.length ∧
          (∀ b o, s.heap.get? b = some o → h'.get? b = some o)) E) F.called_set.init.plain F.entry_set_init (check_set_init_1 hT ?_)) fun r₂ s₂ hr₂ => ?_
      · obtain ⟨ol, hol, hcl, nl, hdl⟩ := hl
        obtain ⟨ocls, odict, odata, oslots⟩ := ol
        simp only at hcl hdl
        subst hcl; subst hdl
        have hol' : (s.heap.push { cls := .type "set", dict := none, data := .set #[] 0 (.fresh 0 0 (!w.params.followText "set-order")) }).get? l = some { cls := .type "list", dict := odict, data := .seq items nl, slots := oslots } := Heap.get?_push_of_some _ hol
        have hsls := F.sub_list_set
        have hslf := F.sub_list_frozenset
        have hne : (Value.type "list" == Value.type "dict") = false := by decide
        have hl1 : (s.heap.push { cls := .type "set", dict := none, data := .set #[] 0 (.fresh 0 0 (!w.params.followText "set-order")) }).IsList l items := ⟨_, hol', rfl, nl, rfl⟩
        unfold Builtin.«set.__init__» noKeywords Builtin.Frozenset.updateFrom
        generalize hPI : pyIter = PI
        wp_walk
        subst hPI

        refine wpAny_pyIter_list hl1 ?_
        refine wpAny_bind (wpAny_runValue ?_)
        have hlS : l < s.heap.objs.size := Heap.lt_size hol
        have hh3 : A.in1.in1.in1.handled = none := by simp [hh]
        have hz1 : (s.heap.push { cls := .type "set", dict := none, data := .set #[] 0 (.fresh 0 0 (!w.params.followText "set-order")) }).objs.size = s.heap.objs.size + 1 := Heap.size_push ..
        have hneI : l ≠ (s.heap.push { cls := .type "set", dict := none, data := .set #[] 0 (.fresh 0 0 (!w.params.followText "set-order")) }).objs.size := by
          rw [Heap.size_push]; exact Nat.ne_of_lt (Nat.lt_succ_of_lt hlS)
        have hSf : s.heap.objs.size ∉ [(s.heap.push { cls := .type "set", dict := none, data := .set #[] 0 (.fresh 0 0 (!w.params.followText "set-order")) }).objs.size, l] := by
          rw [Heap.size_push]; simp only [List.mem_cons, List.mem_singleton, List.not_mem_nil, or_false, not_or]
          exact ⟨Nat.ne_of_lt (Nat.lt_succ_self _), Nat.ne_of_gt hlS⟩
        have hval : ∀ (i : Nat) (v : Value), items[i]? = some v → ∃ k t, ns[i]? = some k ∧ v = .int k t := fun i v hv => by
          have hi : i < ns.length := by rw [← hisz]; exact (Array.getElem?_eq_some_iff.mp hv).1
          obtain ⟨t, e⟩ := PyProof.Rows.IntsAre.int_at hit i v (by rw [Array.getElem?_toList]; exact hv)
          refine ⟨ns[i], t, List.getElem?_eq_getElem hi, ?_⟩
          rw [e, List.getD_eq_getElem?_getD, List.getElem?_eq_getElem hi] <;> rfl
        refine set_update_ints ((Walks.list hh3 _ l hneI items).toS) s.heap.objs.size
          hSf ns hisz hb hval (items.size - 0) 0 _ (by omega) (Nat.zero_le _)
          ⟨⟨_, Heap.get?_push_size _ rfl, rfl, rfl⟩, (hl1.push _)⟩ ?hS0 ?hR
        case hS0 =>
          have hget : ((s.heap.push { cls := .type "set", dict := none, data := .set #[] 0 (.fresh 0 0 (!w.params.followText "set-order")) }).push { cls := .type "list_iterator", data := .fields #[.ref l, .int 0 0] }).get? s.heap.objs.size
              = some { cls := .type "set", dict := none, data := .set #[] 0 (.fresh 0 0 (!w.params.followText "set-order")) } := Heap.get?_push_of_some _ hS
          exact ⟨0, Nat.le_refl 0, setR_new_at hget⟩
        case hR =>
          intro s' c' hm hc' hS'
          obtain ⟨h', g2, d', tk', os'⟩ := s'
          have eg : g2 = s.gens := hm.gens
          have ed : d' = s.drawn := hm.drawn
          have eo : os' = s.os := hm.os
          subst eg; subst ed; subst eo
          show wpAny _ _ _ _ _ _
          refine wpAny_pure ?_
          show wpAny _ _ (PySem.ret Value.none) _ _ _
          rw [hisz] at hc'
          refine wpAny_pure ⟨rfl, h', tk', c', rfl, hS', hc', fun b o e => ?_⟩
          have hb0 : b < s.heap.objs.size := Heap.lt_size e
          have hb1 : b ≠ s.heap.objs.size := Nat.ne_of_lt hb0
          have hb2 : b ≠ (s.heap.push { cls := .type "set", dict := none, data := .set #[] 0 (.fresh 0 0 (!w.params.followText "set-order")) }).objs.size := by
            rw [Heap.size_push]; exact Nat.ne_of_lt (Nat.lt_succ_of_lt hb0)
          exact hm.heap b o (by simp only [List.mem_cons, List.mem_singleton, List.not_mem_nil, or_false, not_or]; exact ⟨hb1, hb2⟩) (Heap.get?_push_of_some _ (Heap.get?_push_of_some _ e))

      · cases r₂ with
        | error e => exact hr₂
        | ok fl₂ =>
          cases fl₂ with
          | ret r =>
            obtain ⟨rfl, h', tk, c', rfl, hS', hc', hk'⟩ := hr₂
            repeat (any_goals (first | assumption | wp_step))
            exact h _ _ _ hS' hc' hk'
          | _ => exact hr₂.elim
    | _ => exact hr.elim

/-- the set in order -/
theorem sorted_setN {S : Int → Bool} {n : Nat} {Q : Value → Shared → Prop} (R : SetR w s.heap a S n) (hh : A.handled = none)
    (hQ : ∀ s' p (out : Array Value) (c : Nat) (ns : List Int), (∀ b o, s.heap.get? b = some o → s'.heap.get? b = some o) → s'.gens = s.gens → s'.os = s.os → s.heap.objs.size ≤ p →
      s'.heap.get? p = some (seqObj "list" out c) → IntsAre out.toList ns → ns.Pairwise (· < ·) → (∀ k, k ∈ ns ↔ S k = true) → Q (.ref p) s') :
    wpAny (model P w) A (call (.builtin "sorted") [.ref a]) Q E s := by
  obtain ⟨o, es, ep, t, ho, hex, hd, g, nd, hm, hb, hf, hn, hr, hl⟩ := R
  refine Calls.call_function_entry kind_sorted plain_sorted entry_sorted (args_sorted1 _) ?_
  unfold Builtin.«sorted»
  refine wpAny_bind (m := checkCount "sorted" 1 1 _) (wpAny_pure ?_)
  refine wpAny_bind (collect_set (A := A.in1) hh ⟨o, ho, hex.1, hd⟩ hf hb hr hl fun s1 vs k1 hz g1 o1 pm => ?_)
  have hsb : scanBound ≤ sizeLine := by decide +kernel
  have hvl : vs.length ≤ sizeLine := by rw [pm.length_eq, List.length_map, Array.length_toList]; omega
  have hI : IntsAre vs (vs.map Builtin.Re.reRawOf) := ints_of vs fun v hv => by
    obtain ⟨e, he, q⟩ := List.mem_map.mp (pm.mem_iff.mp hv)
    obtain ⟨k, tk, h1, _⟩ := g e he
    exact ⟨k, tk, q ▸ h1⟩
  have pk : (vs.map Builtin.Re.reRawOf).Perm (es.toList.map keyOf) := by
    have q := pm.map Builtin.Re.reRawOf
    rwa [List.map_map] at q
  refine wpAny_bind (wpAny_newList ?_ hvl)
  have hoL : (s1.heap.push (seqObj "list" vs.toArray 0)).get? s1.heap.objs.size = some (seqObj "list" vs.toArray 0) := Heap.get?_push_size _ rfl
  refine wpAny_bind (wpAny_holding (wpAny_call_entry slot_list_sort ⟨_, hoL, rfl⟩ entry_list_sort (list_sort_treeAny hoL hI hvl fun out ns' a1 a2 a3 => ⟨_, rfl, ?_⟩) (args_list_sort _)))
  obtain ⟨c, hc⟩ := sortedHeap_at (vs := vs) (out := out) hoL
  have pn : ns'.Perm (es.toList.map keyOf) := a2.trans pk
  refine wpAny_pure ⟨_, rfl, hQ _ s1.heap.objs.size out c ns' (fun b u e => ?_) g1 o1 hz hc a1 (lt_of_le_nodup ns' a3 (pn.nodup_iff.mpr nd)) fun k => (pn.mem_iff).trans (hm k).symm⟩
  have hlt := Heap.lt_size (k1 b u e)
  exact (sortedHeap_old (Nat.ne_of_lt hlt) (by rw [size_push']; exact Nat.lt_succ_of_lt hlt)).trans (Heap.get?_push_of_some _ (k1 b u e))
end
/-! ### strictly ascending, once each -/
theorem insU_mem (i k : Int) : ∀ l : List Int, k ∈ insU i l ↔ k = i ∨ k ∈ l
  | [] => by simp [insU]
  | j :: r => by
    unfold insU
    split
    · simp
    · split
      · rename_i h; subst h; simp
      · simp only [List.mem_cons, insU_mem i k r]
        constructor
        · rintro (h | h | h)
          · exact .inr (.inl h)
          · exact .inl h
          · exact .inr (.inr h)
        · rintro (h | h | h)
          · exact .inr (.inl h)
          · exact .inl h
          · exact .inr (.inr h)
theorem insU_asc (i : Int) : ∀ l : List Int, l.Pairwise (· < ·) → (insU i l).Pairwise (· < ·)
  | [], _ => by simp [insU]
  | j :: r, h => by
    obtain ⟨h1, h2⟩ := List.pairwise_cons.mp h
    unfold insU
    split
    · rename_i hij
      exact List.pairwise_cons.mpr ⟨fun k hk => by
        rcases List.mem_cons.mp hk with e | e
        · omega
        · have := h1 k e; omega, h⟩
    · split
      · exact h
      · refine List.pairwise_cons.mpr ⟨fun k hk => ?_, insU_asc i r h2⟩
        rcases (insU_mem i k r).mp hk with e | e
        · omega
        · exact h1 k e
theorem sortU_mem (k : Int) : ∀ l : List Int, k ∈ sortU l ↔ k ∈ l
  | [] => by simp [sortU]
  | i :: r => by rw [sortU, insU_mem, sortU_mem k r]; simp
theorem sortU_asc : ∀ l : List Int, (sortU l).Pairwise (· < ·)
  | [] => .nil
  | i :: r => insU_asc i _ (sortU_asc r)
theorem asc_uniq : ∀ {a b : List Int}, a.Pairwise (· < ·) → b.Pairwise (· < ·) → (∀ k, k ∈ a ↔ k ∈ b) → a = b
  | [], [], _, _, _ => rfl
  | [], y :: b, _, _, h => absurd ((h y).mpr List.mem_cons_self) (by simp)
  | x :: a, [], _, _, h => absurd ((h x).mp List.mem_cons_self) (by simp)
  | x :: a, y :: b, ha, hb, h => by
    obtain ⟨a1, a2⟩ := List.pairwise_cons.mp ha
    obtain ⟨b1, b2⟩ := List.pairwise_cons.mp hb
    have e : x = y := by
      rcases List.mem_cons.mp ((h x).mp List.mem_cons_self) with e | e
      · exact e
      · rcases List.mem_cons.mp ((h y).mpr List.mem_cons_self) with e2 | e2
        · exact e2.symm
        · have := b1 x e
          have := a1 y e2
          omega
    subst e
    rw [asc_uniq a2 b2 fun k => ?_]
    constructor
    · intro hk
      rcases List.mem_cons.mp ((h k).mp (List.mem_cons_of_mem _ hk)) with e | e
      · have := a1 k hk; omega
      · exact e
    · intro hk
      rcases List.mem_cons.mp ((h k).mpr (List.mem_cons_of_mem _ hk)) with e | e
      · have := b1 k hk; omega
      · exact e
theorem sortU_uniq {l ns : List Int} (h : ns.Pairwise (· < ·)) (m : ∀ k, k ∈ ns ↔ k ∈ l) : sortU l = ns := asc_uniq (sortU_asc l) h fun k => (sortU_mem k l).trans (m k).symm
theorem insU_len (i : Int) : ∀ l : List Int, (insU i l).length ≤ l.length + 1
  | [] => by simp [insU]
  | j :: r => by
    unfold insU
    split
    · simp
    · split
      · simp
      · have := insU_len i r
        simp; omega
theorem sortU_len : ∀ l : List Int, (sortU l).length ≤ l.length
  | [] => by simp [sortU]
  | i :: r => by
    have h1 := insU_len i (sortU r)
    have h2 := sortU_len r
    rw [sortU, List.length_cons]; omega
section
variable {X : Cx} {ea : Expr}
theorem is_sortSet {p p2 pos pos2 : Pos} (hc : X.calm = true) (hg : Gl X "sorted") (hm : X.mg "sorted" = none) (hg2 : Gl X "set") (hm2 : X.mg "set" = none) (hk : okE ea = true) : Is1 X .sortSet ea (.Call (.Name "sorted" p) [.Call (.Name "set" p2) [ea] [] pos2] [] pos) := by
  have na : starEach [ea] X.env = (false, eval ea X.env) :: starEach [] X.env := star_cons hk _ _
  refine ⟨fun pins s σ H Q I h => ?_⟩
  refine Call_ (ld_blt I hg hm PyProof.Rows.boot_sorted (PyProof.Rows.callWith_builtin1 (PyProof.Rows.args_cons (Call_ (ld_blt I hg2 hm2 PyProof.Rows.boot_set (PyProof.Rows.callWith_type1 (PyProof.Rows.args_cons (thn (pe_w.run pins s σ H _ I h) fun v s1 hv => PyProof.Rows.args_nil ?_) na) na rfl))) rfl) rfl rfl))
  obtain ⟨x, H1, I1, r1, T, dx, d, dm, hx, hd, a⟩ := hv
  unfold op1D at hd
  split at hd
  · rename_i e; cases e
  · rename_i e; cases e
  · rename_i xs0 _
    split at hd
    · rename_i ns hns
      split at hd
      · rename_i hz
        cases hd
        obtain ⟨l, xs, rfl, n, hp, z, rr⟩ := hx.list_inv
        obtain rfl : v = Value.ref l := r1
        rw [allInts_some hns] at rr
        rw [rr.ints] at hp
        obtain ⟨its, rv, pl, _⟩ := I1.list (.of hp)
        have hI : IntsAre its ns := ints_of_vals rv
        refine call_set_lstI (P := X.prog) (w := X.w) ns (I.ok.hd hc) pl.isList (by simpa using hI) (by unfold scanBound; omega) fun h' tk c hS hcn hkp => ?_
        refine PyProof.Rows.args_nil ?_
        have I2 : Inv X pins σ H1 { s1 with heap := h', toks := tk } := I1.kept fun b o e => hkp b o e
        refine sorted_setN (P := X.prog) (w := X.w) (s := { s1 with heap := h', toks := tk }) hS (I.ok.hd hc) fun s' p out cc ns' k g o hp' hg' hout hasc hmem => ?_
        have e0 : sortU ns = ns' := sortU_uniq hasc fun k => by rw [hmem k]; simp
        have hlen : (ns'.map V.int).length ≤ sizeLine := by
          have := sortU_len ns
          rw [List.length_map, ← e0, sizeLine_eq]; omega
        have hn : H1 p = none := I2.hok.fresh hp'
        have J : Inv X pins σ (upd H1 p (.lst (ns'.map V.int))) { ({ s1 with heap := h', toks := tk } : Shared) with heap := s'.heap, gens := s'.gens, drawn := s'.drawn, toks := s'.toks } :=
          I2.call (ch := []) (Un.laid k hp' hn) (I2.hok.laid k hp' ⟨hlen, out.toList, cc, vals_of_ints hout, by rw [Array.toArray_toList]; exact hg'⟩) (by rw [g]; exact I2.bare) (fun _ z => nomatch z)
        have e : s' = { s1 with heap := s'.heap, gens := s'.gens, drawn := s'.drawn, toks := s'.toks } := by
          cases s'
          cases s1
          cases o
          rfl
        rw [e]
        refine ⟨.ref p, _, J, rfl, ?_⟩
        have a : AnsF T (.list ((sortU ns).map .int)) Q H1 := a
        rw [e0] at a
        exact a.lst (repL_intsM ns') hlen p hn
      · cases hd
    · cases hd
  · rename_i xs0 _
    split at hd
    · rename_i ns hns
      split at hd
      · rename_i hz
        cases hd
        obtain ⟨l, xs, rfl, n, hp, z, rr⟩ := hx.tuple_inv
        obtain rfl : v = Value.ref l := r1
        rw [allInts_some hns] at rr
        rw [rr.ints] at hp
        obtain ⟨its, rv, pl, _⟩ := I1.tuple (.of hp)
        have hI : IntsAre its ns := ints_of_vals rv
        refine call_set_tupI (P := X.prog) (w := X.w) ns (I.ok.hd hc) (show s1.heap.IsTuple l its.toArray from pl) (by simpa using hI) (by unfold scanBound; omega) fun h' tk c hS hcn hkp => ?_
        refine PyProof.Rows.args_nil ?_
        have I2 : Inv X pins σ H1 { s1 with heap := h', toks := tk } := I1.kept fun b o e => hkp b o e
        refine sorted_setN (P := X.prog) (w := X.w) (s := { s1 with heap := h', toks := tk }) hS (I.ok.hd hc) fun s' p out cc ns' k g o hp' hg' hout hasc hmem => ?_
        have e0 : sortU ns = ns' := sortU_uniq hasc fun k => by rw [hmem k]; simp
        have hlen : (ns'.map V.int).length ≤ sizeLine := by
          have := sortU_len ns
          rw [List.length_map, ← e0, sizeLine_eq]; omega
        have hn : H1 p = none := I2.hok.fresh hp'
        have J : Inv X pins σ (upd H1 p (.lst (ns'.map V.int))) { ({ s1 with heap := h', toks := tk } : Shared) with heap := s'.heap, gens := s'.gens, drawn := s'.drawn, toks := s'.toks } :=
          I2.call (ch := []) (Un.laid k hp' hn) (I2.hok.laid k hp' ⟨hlen, out.toList, cc, vals_of_ints hout, by rw [Array.toArray_toList]; exact hg'⟩) (by rw [g]; exact I2.bare) (fun _ z => nomatch z)
        have e : s' = { s1 with heap := s'.heap, gens := s'.gens, drawn := s'.drawn, toks := s'.toks } := by
          cases s'
          cases s1
          cases o
          rfl
        rw [e]
        refine ⟨.ref p, _, J, rfl, ?_⟩
        have a : AnsF T (.list ((sortU ns).map .int)) Q H1 := a
        rw [e0] at a
        exact a.lst (repL_intsM ns') hlen p hn
      · cases hd
    · cases hd
  · rename_i e; cases e
  · cases hd
end
end Mir

set_option Elab.async false
set_option linter.all false
set_option maxRecDepth 100000
set_option maxHeartbeats 4000000
/-! Mir: zip(a, b, c) of lists walked. -/
namespace Mir
open PySem PySem.Spec PyProof.Rows L2
/-- the lists at a, b and c as they stand at each turn, the items in new tuples -/
def Itz3 (K : PySem.W.Frag) (a b c : Addr) : L2.It :=
  ⟨fun i H => ∃ (xs ys zs : List V) (x y z : V), SqL K H a xs ∧ SqL K H b ys ∧ SqL K H c zs ∧ xs[i]? = some x ∧ ys[i]? = some y ∧ zs[i]? = some z,
    fun i H v H' => ∃ T x y z, v = .ref T ∧ H T = none ∧ H' = upd H T (.tup [x, y, z]) ∧ (∀ xs, SqL K H a xs → xs[i]? = some x) ∧ (∀ ys, SqL K H b ys → ys[i]? = some y) ∧ ∀ zs, SqL K H c zs → zs[i]? = some z,
    fun i H => ∃ xs ys zs : List V, SqL K H a xs ∧ SqL K H b ys ∧ SqL K H c zs ∧ (xs.length ≤ i ∨ ys.length ≤ i ∨ zs.length ≤ i)⟩
/-- a list's iterator at i, be it past the end -/
theorem draws_at {prog : Program} {w : World} {A : Around} (hh : A.handled = none) (it l : Addr) (hne : l ≠ it) (items : Array Value) (i : Nat) :
    ∃ (n : Nat) (P : Nat → Value → Prop) (St : Nat → Heap → Prop), Draws prog w A it [it, l] n P St ∧ (∀ h, h.IsListIter it l i → h.IsList l items → St i h) ∧ i ≤ n ∧ (items.size ≤ i → i = n) := by
  by_cases q : items.size ≤ i
  · refine ⟨i, fun _ _ => True, fun j h => (h.IsListIter it l j ∧ h.IsList l items) ∧ j = i, ⟨fun _ _ st => let ⟨o, ho, _⟩ := st.1.1; ⟨o, ho⟩, fun _ _ _ st hk => ⟨⟨st.1.1.at fun o e => hk it (by simp) o e, st.1.2.at fun o e => hk l (by simp) o e⟩, st.2⟩,
      fun j s Q E hj st hQ => absurd st.2 (by omega), fun s Q E st hE => wpAny_nextOf_list_end hh st.1.1 st.1.2 (by simpa using q) hE⟩, fun h a b => ⟨⟨a, b⟩, rfl⟩, Nat.le_refl _, fun _ => rfl⟩
  · exact ⟨items.size, _, _, Draws.list hh it l hne items, fun h a b => ⟨a, b⟩, by omega, fun z => absurd z q⟩
theorem mem6 {α : Type} {c a1 a2 a3 a4 a5 a6 : α} (h : c ∈ [a1, a2, a3, a4, a5, a6]) : c = a1 ∨ c = a2 ∨ c = a3 ∨ c = a4 ∨ c = a5 ∨ c = a6 := by simpa using h
theorem turn_zip3 {P : Program} {w : World} {K : PySem.W.Frag} {elts : List Expr} {kk : Nat} {tpos : Pos} {a b d z TI TO i1 i2 i3 : Addr} (D : ZipSep3 z TI TO i1 i2 i3 [i1, a] [i2, b] [i3, d]) (n1 : a ≠ i1) (n2 : b ≠ i2) (n3 : d ≠ i3) :
    Turn P w K (.Tuple elts kk tpos) (Itz3 K a b d) [z, TI, TO, i1, i2, i3] z (fun i h => IsZip h z TI TO .none ∧ IsTupOf3 h TI (.ref i1) (.ref i2) (.ref i3) ∧ (∃ x y u, IsTupOf3 h TO x y u) ∧ h.IsListIter i1 a i ∧ h.IsListIter i2 b i ∧ h.IsListIter i3 d i) where
  mem := by simp
  obj := fun i h st c hc => by
    obtain ⟨hz, hTI, ⟨x, y, u, hTO⟩, ⟨o1, e1, _, d1⟩, ⟨o2, e2, _, d2⟩, ⟨o3, e3, _, d3⟩⟩ := st
    rcases mem6 hc with q | q | q | q | q | q
    · rw [q]; exact ⟨_, hz, fun v q => nomatch q⟩
    · rw [q]; exact ⟨_, hTI, fun v q => nomatch q⟩
    · rw [q]; exact ⟨_, hTO, fun v q => nomatch q⟩
    · rw [q]; exact ⟨o1, e1, fun v q => by rw [d1] at q; cases q⟩
    · rw [q]; exact ⟨o2, e2, fun v q => by rw [d2] at q; cases q⟩
    · rw [q]; exact ⟨o3, e3, fun v q => by rw [d3] at q; cases q⟩
  keep := fun i h h' st k => by
    obtain ⟨hz, hTI, ⟨x, y, u, hTO⟩, h1, h2, h3⟩ := st
    exact ⟨k z (by simp) _ hz, k TI (by simp) _ hTI, ⟨x, y, u, k TO (by simp) _ hTO⟩, h1.at fun o q => k i1 (by simp) o q, h2.at fun o q => k i2 (by simp) o q, h3.at fun o q => k i3 (by simp) o q⟩
  item := by
    intro X hP hw hK hc i pins s σ H E I hf st hg
    subst hP hw hK
    obtain ⟨hz, hTI, ⟨x0, y0, u0, hTO⟩, h1, h2, h3⟩ := st
    obtain ⟨xs, ys, zs, x, y, t, hqx, hqy, hqz, hx, hy, ht⟩ := hg
    obtain ⟨its, rv, p, _⟩ := I.list hqx
    obtain ⟨its2, rv2, p2, _⟩ := I.list hqy
    obtain ⟨its3, rv3, p3, _⟩ := I.list hqz
    obtain ⟨u, hu, ru⟩ := rv.get hx
    obtain ⟨u2, hu2, ru2⟩ := rv2.get hy
    obtain ⟨u3, hu3, ru3⟩ := rv3.get ht
    have hzl : z < s.heap.objs.size := Heap.lt_size hz
    have hh : X.A.in1.handled = none := I.ok.hd hc
    have l1 := (List.getElem?_eq_some_iff.mp hu).1
    have l2 := (List.getElem?_eq_some_iff.mp hu2).1
    have l3 := (List.getElem?_eq_some_iff.mp hu3).1
    refine wpAny_pyNext_zipD3_item D (Draws.list hh i1 a n1 its.toArray) (Draws.list hh i2 b n2 its2.toArray) (Draws.list hh i3 d n3 its3.toArray) hz hTI hTO ⟨h1, p.isList⟩ ⟨h2, p2.isList⟩ ⟨h3, p3.isList⟩ (by simpa using l1) (by simpa using l2) (by simpa using l3) fun v1 v2 v3 h' tk q1 q2 q3 z' TO' s1 s2 s3 hT hsz hk => ?_
    have q1 : v1 = u := by simpa [hu] using q1.symm
    have q2 : v2 = u2 := by simpa [hu2] using q2.symm
    have q3 : v3 = u3 := by simpa [hu3] using q3.symm
    subst q1 q2 q3
    refine ⟨_, rfl, wpAny_letOwnedTupleGo_zip (s := { s with heap := h', toks := tk }) z' fun h'' z'' sb => ?_⟩
    have hT2 : h''.get? s.heap.objs.size = some { cls := .type "tuple", data := .seq #[v1, v2, v3] } := (sb.2 _ (Nat.ne_of_gt hzl)).trans hT
    have new : ObjOk X.prog X.w (upd H s.heap.objs.size (.tup [x, y, t])) h'' s.heap.objs.size (.tup [x, y, t]) :=
      ⟨by show 3 ≤ sizeLine; decide, [v1, v2, v3], .cons ru (.cons ru2 (.cons ru3 .nil)), ⟨_, hT2, rfl, _, rfl⟩⟩
    have I1 : Inv X pins σ (upd H s.heap.objs.size (.tup [x, y, t])) { s with heap := h'', toks := tk } :=
      I.turnedNew (t' := tk) (ch := [z, TI, TO, i1, i2, i3]) (fun c o hb q => (sb.2 c (fun q' => hb (by simp [q']))).trans (hk c o (fun q' => hb (by simp [q'])) (fun q' => hb (by simp [q'])) (fun q' => hb (by simp [q'])) (fun q' => hb (by simp [q'])) (fun q' => hb (by simp [q'])) q)) hf (Nat.le_refl _) new
    refine ⟨.ref s.heap.objs.size, _, I1, rfl, ⟨_, x, y, t, rfl, I.hok.fresh (Nat.le_refl _), rfl, fun l hl => by rw [I.list_inj hl hqx]; exact hx, fun l hl => by rw [I.list_inj hl hqy]; exact hy, fun l hl => by rw [I.list_inj hl hqz]; exact ht⟩, ⟨z'', ?_, ⟨v1, v2, v3, ?_⟩, ?_, ?_, ?_⟩, fun c hcm => ?_⟩
    · exact (sb.2 _ D.TIz).trans (hk _ _ D.TIz D.TITO D.TIi1 D.TIi2 D.TIi3 hTI)
    · exact (sb.2 _ D.TOz).trans TO'
    · exact s1.1.at fun o q => (sb.2 _ (Ne.symm D.zi1)).trans q
    · exact s2.1.at fun o q => (sb.2 _ (Ne.symm D.zi2)).trans q
    · exact s3.1.at fun o q => (sb.2 _ (Ne.symm D.zi3)).trans q
    · have hlt : c < s.heap.objs.size := by
        rcases mem6 hcm with q | q | q | q | q | q
        · rw [q]; exact hzl
        · rw [q]; exact Heap.lt_size hTI
        · rw [q]; exact Heap.lt_size hTO
        · rw [q]; obtain ⟨_, e1, _⟩ := h1; exact Heap.lt_size e1
        · rw [q]; obtain ⟨_, e2, _⟩ := h2; exact Heap.lt_size e2
        · rw [q]; obtain ⟨_, e3, _⟩ := h3; exact Heap.lt_size e3
      rw [upd_ne (Nat.ne_of_lt hlt)]
      exact (hf c hcm).1
  done := by
    intro X hP hw hK hc i pins s σ H E I hf st hg
    subst hP hw hK
    obtain ⟨hz, hTI, ⟨x0, y0, u0, hTO⟩, h1, h2, h3⟩ := st
    obtain ⟨xs, ys, zs, hqx, hqy, hqz, hend⟩ := hg
    obtain ⟨its, rv, p, _⟩ := I.list hqx
    obtain ⟨its2, rv2, p2, _⟩ := I.list hqy
    obtain ⟨its3, rv3, p3, _⟩ := I.list hqz
    have l1 := rv.length
    have l2 := rv2.length
    have l3 := rv3.length
    have hh : X.A.in1.handled = none := I.ok.hd hc
    obtain ⟨m1, P1, S1, D1, a1, b1, c1⟩ := draws_at (prog := X.prog) (w := X.w) hh i1 a n1 its.toArray i
    obtain ⟨m2, P2, S2, D2, a2, b2, c2⟩ := draws_at (prog := X.prog) (w := X.w) hh i2 b n2 its2.toArray i
    obtain ⟨m3, P3, S3, D3, a3, b3, c3⟩ := draws_at (prog := X.prog) (w := X.w) hh i3 d n3 its3.toArray i
    refine wpAny_pyNext_zipD3_end D D1 D2 D3 hz hTI hTO (a1 _ h1 p.isList) (a2 _ h2 p2.isList) (a3 _ h3 p3.isList) b1 b2 b3 ?_ fun h' tk hk => ⟨rfl, I.turnedL (t' := tk) (ch := [z, TI, TO, i1, i2, i3]) (fun c o hb q =>
      hk c o (fun q' => hb (by simp [q'])) (fun q' => hb (by simp [q'])) (fun q' => hb (by simp [q'])) (fun q' => hb (by simp [q'])) (fun q' => hb (by simp [q'])) q) hf⟩
    rcases hend with q | q | q
    · exact .inl (c1 (by simp; omega))
    · exact .inr (.inl (c2 (by simp; omega)))
    · exact .inr (.inr (c3 (by simp; omega)))
  self := fun A i s Q E st h => wpAny_pyIter_zip st.1 h
def iZip3 (K : PySem.W.Frag) (ta : TA) : TI := fun σ H R => ta σ H fun vs H1 => ∃ a b c xs ys zs, vs = [.ref a, .ref b, .ref c] ∧ SqL K H1 a xs ∧ SqL K H1 b ys ∧ SqL K H1 c zs ∧ R (Itz3 K a b c) H1
theorem pi_zip3 {X : Cx} {e e2 e3 : Expr} {ta : TA} {p pos tpos : Pos} {elts : List Expr} {kk : Nat} (hg : Gl X "zip") (hm : X.mg "zip" = none) (ha : PA X [e, e2, e3] ta)
    (hs : starEach [e, e2, e3] X.env = (false, eval e X.env) :: starEach [e2, e3] X.env := by rfl) (hpl : (backTo pos (starEach [e2, e3] X.env)).any (·.1) = false := by rfl) :
    PI X (.Tuple elts kk tpos) (.Call (.Name "zip" p) [e, e2, e3] [] pos) (iZip3 X.K ta) := by
  refine ⟨fun pins s σ H R I h => ?_⟩
  refine Call_ (ld_blt I hg hm PyProof.Rows.boot_zip (PyProof.Rows.callWith_type1 (thn (ha.run pos pins s σ H _ I h) fun us s1 ⟨vs, H1, I1, r1, q1⟩ => ?_) hs hpl))
  obtain ⟨a, b, c, xs, ys, zs, rfl, hqx, hqy, hqz, q⟩ := q1
  cases r1 with
  | cons r rr =>
    cases rr with
    | cons r' rr =>
      cases rr with
      | cons r'' rr =>
        cases rr
        cases r
        cases r'
        cases r''
        obtain ⟨its, rv, p1, _⟩ := I1.list hqx
        obtain ⟨its2, rv2, p2, _⟩ := I1.list hqy
        obtain ⟨its3, rv3, p3, _⟩ := I1.list hqz
        have la : a < s1.heap.objs.size := p1.lt
        have lb : b < s1.heap.objs.size := p2.lt
        have lc : c < s1.heap.objs.size := p3.lt
        refine zip_begins3 (begins_list a its.toArray) (begins_list b its2.toArray) (begins_list c its3.toArray) p1.isList p2.isList p3.isList fun h' hz hTI hTO h1 h2 h3 hsz hk => wpAny_pyIter_zip hz ?_
        have I2 : Inv X pins σ H1 { s1 with heap := h' } := I1.kept (t' := s1.toks) hk
        refine ⟨s1.heap.objs.size + 5, [s1.heap.objs.size + 5, s1.heap.objs.size + 3, s1.heap.objs.size + 4, s1.heap.objs.size, s1.heap.objs.size + 1, s1.heap.objs.size + 2], _, _, H1, rfl, I2,
          turn_zip3 (zip_sep3 (N := s1.heap.objs.size) (fp1 := [a]) (fp2 := [b]) (fp3 := [c]) (by simpa using la) (by simpa using lb) (by simpa using lc)) (Nat.ne_of_lt la) (Nat.ne_of_lt (Nat.lt_succ_of_lt lb)) (Nat.ne_of_lt (Nat.lt_of_lt_of_le lc (Nat.le_add_right _ _))),
          ⟨hz, hTI, ⟨_, _, _, hTO⟩, ⟨_, h1, rfl, rfl⟩, ⟨_, h2, rfl, rfl⟩, ⟨_, h3, rfl, rfl⟩⟩, fun c hcm => ?_, q⟩
        have hle : s1.heap.objs.size ≤ c := by
          rcases mem6 hcm with z | z | z | z | z | z
          · rw [z]; exact Nat.le_add_right _ _
          · rw [z]; exact Nat.le_add_right _ _
          · rw [z]; exact Nat.le_add_right _ _
          · rw [z]; exact Nat.le_refl _
          · rw [z]; exact Nat.le_add_right _ _
          · rw [z]; exact Nat.le_add_right _ _
        exact I1.fpOk hle (I1.hok.fresh hle)
end Mir

set_option Elab.async false
set_option linter.all false
set_option maxRecDepth 100000
set_option maxHeartbeats 4000000
/-! Mir, part G: targets, what is walked, comprehensions. -/
namespace Mir
open PySem PySem.Spec PyProof.Rows L2

/-! ### targets -/
def tgs : Tg → List Nat
  | .nm i => [i]
  | .tup is => is
  | .mix ts => flatI ts
def setAllS : List Nat → List V → L2.St → L2.St
  | i :: is, v :: vs, σ => setAllS is vs (σ.set i (some v))
  | _, _, σ => σ
def wG (X : Cx) (e : Expr) : TG := fun v σ H Q => ∀ (pins : List (Addr × Obj)) (s : Shared) (u : Value), Inv X pins σ H s → RelV v u →
  wpAny (model X.prog X.w) X.A (assign e X.env u) (fun _ s' => ∃ σ' H', Inv X pins σ' H' s' ∧ Q σ' H') X.xe s
theorem pg_w {X : Cx} {e : Expr} : PG X e (wG X e) := ⟨fun pins s σ H v u Q I r h => h pins s u I r⟩
theorem _root_.L2.PG.w {X : Cx} {e : Expr} {t : TG} {v : V} {σ : L2.St} {H : Hp} {Q : L2.St → Hp → Prop} (h : PG X e t) (q : t v σ H Q) : wG X e v σ H Q := fun pins s u I r => h.run pins s σ H v u Q I r q
/-- a name that may be stored, in slot i -/
def TgN (X : Cx) (i : Nat) (e : Expr) : Prop := ∃ x pos, e = .Name x pos ∧ X.N[i]? = some x ∧ Loc X.env.scope x ∧ (X.fn x = true ∨ X.env.scope.names.lookup x = some .local)
theorem TgN.pg {X : Cx} {i : Nat} {e : Expr} (h : TgN X i e) (nd : X.N.Nodup) : PG X e (gName i) := by
  obtain ⟨x, pos, rfl, h1, h2, h3⟩ := h
  exact pg_name nd h1 h2 h3
def TgNs (X : Cx) : List Nat → List Expr → Prop
  | [], [] => True
  | i :: is, e :: es => TgN X i e ∧ TgNs X is es
  | _, _ => False
def TgIs (X : Cx) : List TgI → List Expr → Prop
  | [], [] => True
  | .nm i :: ts, e :: es => TgN X i e ∧ TgIs X ts es
  | .tup is :: ts, .Tuple es _ _ :: r => TgNs X is es ∧ TgIs X ts r
  | _, _ => False
/-- the target tg is e -/
def TgOk (X : Cx) : Tg → Expr → Prop
  | .nm i, e => TgN X i e
  | .tup is, .Tuple es _ _ => TgNs X is es
  | .mix ts, .Tuple es _ _ => TgIs X ts es
  | _, _ => False
theorem name_each {x : Str} {pos : Pos} {es : List Expr} {env : PySem.Env} : assignEach (.Name x pos :: es) env = (false, assign (.Name x pos) env) :: assignEach es env := rfl
def gNames : List Nat → TGs
  | [] => gNil
  | i :: is => gCons (gName i) (gNames is)
theorem TgNs.pgs {X : Cx} (nd : X.N.Nodup) : ∀ {is : List Nat} {es : List Expr}, TgNs X is es → PGs X es (gNames is) ∧ (assignEach es X.env).length = is.length ∧ (assignEach es X.env).findIdx? (·.1) = none
  | [], [], _ => ⟨pgs_nil, rfl, rfl⟩
  | i :: is, e :: es, h => by
    obtain ⟨h1, h2⟩ := h
    obtain ⟨a, b, c⟩ := TgNs.pgs nd h2
    have hp := h1.pg nd
    obtain ⟨x, pos, rfl, _⟩ := h1
    refine ⟨pgs_cons hp a (by rw [name_each]; rfl), by rw [name_each]; simp [b], ?_⟩
    rw [name_each, List.findIdx?_cons, c]
    rfl
  | [], _ :: _, h => h.elim
  | _ :: _, [], h => h.elim
theorem gNames_ok {Q : L2.St → Hp → Prop} {H : Hp} : ∀ {is : List Nat} {vs : List V} {σ : L2.St}, is.length = vs.length → Q (setAllS is vs σ) H → gNames is vs σ H Q
  | [], [], σ, _, h => ⟨rfl, h⟩
  | i :: is, v :: vs, σ, hl, h => ⟨v, vs, rfl, gNames_ok (by simpa using hl) h⟩
  | [], _ :: _, _, h, _ => nomatch h
  | _ :: _, [], _, h, _ => nomatch h
def gMix (K : PySem.W.Frag) : List TgI → TGs
  | [] => gNil
  | .nm i :: ts => gCons (gName i) (gMix K ts)
  | .tup is :: ts => gCons (gTup K is.length (gNames is)) (gMix K ts)
theorem tup_each {es es2 : List Expr} {j : Nat} {pos : Pos} {env : PySem.Env} : assignEach (.Tuple es j pos :: es2) env = (false, assign (.Tuple es j pos) env) :: assignEach es2 env := rfl
theorem TgIs.pgs {X : Cx} (nd : X.N.Nodup) (hc : X.calm = true) : ∀ {ts : List TgI} {es : List Expr}, TgIs X ts es → PGs X es (gMix X.K ts) ∧ (assignEach es X.env).length = ts.length ∧ (assignEach es X.env).findIdx? (·.1) = none
  | [], [], _ => ⟨pgs_nil, rfl, rfl⟩
  | .nm i :: ts, e :: es, h => by
    obtain ⟨h1, h2⟩ := (show TgN X i e ∧ TgIs X ts es from h)
    obtain ⟨a, b, c⟩ := TgIs.pgs nd hc h2
    have hp := h1.pg nd
    obtain ⟨x, pos, rfl, _⟩ := h1
    refine ⟨pgs_cons hp a (by rw [name_each]; rfl), by rw [name_each]; simp [b], ?_⟩
    rw [name_each, List.findIdx?_cons, c]
    rfl
  | .tup is :: ts, .Tuple es j pos :: r, h => by
    obtain ⟨h1, h2⟩ := (show TgNs X is es ∧ TgIs X ts r from h)
    obtain ⟨a, b, c⟩ := TgIs.pgs nd hc h2
    obtain ⟨p1, p2, p3⟩ := TgNs.pgs nd h1
    refine ⟨pgs_cons (pg_tup hc p1 p2 p3) a (by rw [tup_each]; rfl), by rw [tup_each]; simp [b], ?_⟩
    rw [tup_each, List.findIdx?_cons, c]
    rfl
  | [], _ :: _, h => (by cases h)
  | .nm _ :: _, [], h => (by cases h)
  | .tup _ :: _, [], h => (by cases h)
theorem setAllS_append {us : List V} : ∀ {is : List Nat} {vs : List V} {js : List Nat} {σ : L2.St}, is.length = vs.length → setAllS (is ++ js) (vs ++ us) σ = setAllS js us (setAllS is vs σ)
  | [], [], js, σ, _ => rfl
  | i :: is, v :: vs, js, σ, h => setAllS_append (is := is) (vs := vs) (by simpa using h)
  | [], _ :: _, _, _, h => nomatch h
  | _ :: _, [], _, _, h => nomatch h
theorem gMix_ok {K : PySem.W.Frag} {T : Addr → Prop} {H : Hp} : ∀ {ts : List TgI} {ds xs : List PyData} {vs : List V} {σ : L2.St} {Q : L2.St → Hp → Prop}, mixD ts ds = some xs → RepL T H ds vs → (∀ ws, RepL T H xs ws → (flatI ts).length = ws.length → Q (setAllS (flatI ts) ws σ) H) → gMix K ts vs σ H Q
  | [], [], xs, vs, σ, Q, h, r, q => by
    cases h
    rw [r.nil_inv]
    exact ⟨rfl, q [] .nil rfl⟩
  | .nm i :: ts, d :: ds, xs, vs, σ, Q, h, r, q => by
    obtain ⟨ys, hy, rfl⟩ := Option.map_eq_some_iff.mp (show (mixD ts ds).map (d :: ·) = some xs from h)
    obtain ⟨v, r', rfl, h1, h2⟩ := r.cons_inv
    exact ⟨v, r', rfl, gMix_ok hy h2 fun ws hw hl => q (v :: ws) (.cons h1 hw) (by simp [flatI, hl])⟩
  | .tup is :: ts, .tuple es :: ds, xs, vs, σ, Q, h, r, q => by
    have h : (if es.length = is.length then (mixD ts ds).map (es ++ ·) else none) = some xs := h
    split at h
    · rename_i hl
      obtain ⟨ys, hy, rfl⟩ := Option.map_eq_some_iff.mp h
      obtain ⟨v, r', rfl, h1, h2⟩ := r.cons_inv
      obtain ⟨a, zs, rfl, _, hp, z, rr⟩ := h1.tuple_inv
      have hl' : is.length = zs.length := by rw [← rr.length]; exact hl.symm
      refine ⟨_, r', rfl, a, zs, rfl, .of hp, hl'.symm, gNames_ok hl' (gMix_ok hy h2 fun ws hw hlw => ?_)⟩
      have := q (zs ++ ws) (rr.append hw) (by simp [flatI, hl', hlw])
      rwa [show flatI (.tup is :: ts) = is ++ flatI ts from rfl, setAllS_append hl'] at this
    · cases h
  | [], _ :: _, _, _, _, _, h, _, _ => nomatch h
  | .nm _ :: _, [], _, _, _, _, h, _, _ => nomatch h
  | .tup _ :: _, [], _, _, _, _, h, _, _ => nomatch h
  | .tup is :: ts, .int _ :: _, _, _, _, _, h, _, _ => nomatch h
  | .tup is :: ts, .none :: _, _, _, _, _, h, _, _ => nomatch h
  | .tup is :: ts, .bool _ :: _, _, _, _, _, h, _, _ => nomatch h
  | .tup is :: ts, .str _ :: _, _, _, _, _, h, _, _ => nomatch h
  | .tup is :: ts, .list _ :: _, _, _, _, _, h, _, _ => nomatch h
  | .tup is :: ts, .dict _ :: _, _, _, _, _, h, _, _ => nomatch h
theorem mixD_len : ∀ {ts : List TgI} {ds ys : List PyData}, mixD ts ds = some ys → ts.length = ds.length
  | [], [], _, _ => rfl
  | .nm i :: ts, d :: ds, ys, h => by
    obtain ⟨zs, hz, _⟩ := Option.map_eq_some_iff.mp (show (mixD ts ds).map (d :: ·) = some ys from h)
    simp [mixD_len hz]
  | .tup is :: ts, d :: ds, ys, h => by
    cases d with
    | tuple es =>
      have h : (if es.length = is.length then (mixD ts ds).map (es ++ ·) else none) = some ys := h
      split at h
      · obtain ⟨zs, hz, _⟩ := Option.map_eq_some_iff.mp h
        simp [mixD_len hz]
      · cases h
    | _ => cases h
  | [], _ :: _, _, h => nomatch h
  | .nm _ :: _, [], _, h => nomatch h
  | .tup _ :: _, [], _, h => nomatch h
theorem sg {X : Cx} {T : Addr → Prop} {tg : Tg} {e : Expr} {d : PyData} {ρ ρ' : Env} {x : V} {σ : L2.St} {H : Hp} {Q : L2.St → Hp → Prop} (nd : X.N.Nodup) (hc : X.calm = true) (h : TgOk X tg e) (ha : asg tg d ρ = .ok ρ') (r : Rep T H d x)
    (q : ∀ ds vs, RepL T H ds vs → (tgs tg).length = vs.length → ρ' = setAll (tgs tg) ds ρ → Q (setAllS (tgs tg) vs σ) H) : wG X e x σ H Q := by
  cases tg with
  | nm i =>
    cases ha
    exact (TgN.pg h nd).w (q [d] [x] (.cons r .nil) rfl rfl)
  | tup is =>
    match e, h with
    | .Tuple es _ _, h =>
      cases d with
      | tuple ds =>
        have ha : (if ds.length = is.length then R.ok (setAll is ds ρ) else .bad) = .ok ρ' := ha
        split at ha
        · rename_i hl
          cases ha
          obtain ⟨p1, p2, p3⟩ := TgNs.pgs nd (show TgNs X is es from h)
          obtain ⟨a, xs, rfl, _, hp, z, rr⟩ := r.tuple_inv
          have hl' : is.length = xs.length := by rw [← rr.length]; exact hl.symm
          exact (pg_tup hc p1 p2 p3).w ⟨a, xs, rfl, .of hp, hl'.symm, gNames_ok hl' (q ds xs rr hl' rfl)⟩
        · cases ha
      | _ => cases ha
  | mix ts =>
    match e, h with
    | .Tuple es _ _, h =>
      cases d with
      | tuple ds =>
        have ha : (match mixD ts ds with
          | some xs => R.ok (setAll (flatI ts) xs ρ)
          | none => .bad) = .ok ρ' := ha
        cases hm : mixD ts ds with
        | none => rw [hm] at ha; cases ha
        | some ys =>
          rw [hm] at ha
          cases ha
          obtain ⟨p1, p2, p3⟩ := TgIs.pgs nd hc (show TgIs X ts es from h)
          obtain ⟨a, xs, rfl, _, hp, z, rr⟩ := r.tuple_inv
          exact (pg_tup hc p1 p2 p3).w ⟨a, xs, rfl, .of hp, by rw [← rr.length, mixD_len hm], gMix_ok hm rr fun ws hw hlw => q ys ws hw hlw rfl⟩
      | _ => cases ha
theorem nx_ok {S α : Type} {m : M S α} {s : S} {a : α × S} (h : nx m s = .ok a) : m s = .ok a := by
  unfold nx at h
  cases q : m s with
  | ok b => rw [q] at h; exact h
  | exc x l => rw [q] at h; cases h
  | bad => rw [q] at h; cases h

section
variable {S : Type} {X : Cx} {k : SK S} {T T' : Addr → Prop} {σ : L2.St} {H H' : Hp} {ρ : Env} {st : S} {L : List Nat}
theorem EnvR.set {i : Nat} {d : PyData} {v : V} (n : EnvR X k T L ρ σ H) (r : Rep T H d v) (hs : ∀ p, k.slot = some p → p.1 ≠ i) : EnvR X k T (i :: L) (ρ.set i (some d)) (σ.set i (some v)) H := by
  refine ⟨fun j hj d' e => ?_, fun p hp => ?_, by simpa using n.len⟩
  · by_cases q : j = i
    · subst q
      have hl : j < ρ.length := by
        have := (List.getElem?_eq_some_iff.mp e).1
        simpa using this
      rw [List.getElem?_set_self hl] at e
      cases e
      exact ⟨v, by rw [List.getElem?_set_self (Nat.lt_of_lt_of_le hl n.len)], r⟩
    · rw [List.getElem?_set_ne (Ne.symm q)] at e
      rcases List.mem_cons.mp hj with z | z
      · exact absurd z q
      · obtain ⟨w, a, b⟩ := n.v j z d' e
        exact ⟨w, by rw [List.getElem?_set_ne (Ne.symm q)]; exact a, b⟩
  · rw [List.getElem?_set_ne (Ne.symm (hs p hp))]
    exact n.ds p hp
theorem EnvR.setAll : ∀ {is : List Nat} {ds : List PyData} {vs : List V} {ρ : Env} {σ : L2.St} {L : List Nat}, (∀ p, k.slot = some p → ∀ i ∈ is, p.1 ≠ i) → EnvR X k T L ρ σ H → RepL T H ds vs → is.length = vs.length → EnvR X k T (is ++ L) (Mir.setAll is ds ρ) (setAllS is vs σ) H
  | [], ds, vs, ρ, σ, L, _, n, r, hl => by
    cases vs with
    | nil => cases ds with
      | nil => exact n
      | cons d ds => exact nomatch r.length
    | cons v vs => exact nomatch hl
  | i :: is, ds, vs, ρ, σ, L, hs, n, r, hl => by
    cases vs with
    | nil => exact nomatch hl
    | cons v vs =>
      cases ds with
      | nil => exact nomatch r.length
      | cons d ds =>
        obtain ⟨x, t, e, h1, h2⟩ := r.cons_inv
        cases e
        have := EnvR.setAll (fun p hp j hj => hs p hp j (List.mem_cons_of_mem _ hj)) (n.set h1 (fun p hp => hs p hp i List.mem_cons_self)) h2 (by simpa using hl)
        exact this.sub fun j hj => by
          simp only [List.cons_append, List.mem_cons, List.mem_append] at hj ⊢
          rcases hj with z | z | z
          · exact .inr (.inl z)
          · exact .inl z
          · exact .inr (.inr z)
theorem EnvR.mv (n : EnvR X k T L ρ σ H) (m : Mv T T' H H') : EnvR X k T' L ρ σ H' := ⟨fun i hi d e => let ⟨v, a, b⟩ := n.v i hi d e; ⟨v, a, Rep.mv m d v b⟩, n.ds, n.len⟩
/-- another context -/
theorem EnvR.cx {X' : Cx} (n : EnvR X k T L ρ σ H) : EnvR X' k T L ρ σ H := ⟨n.v, n.ds, n.len⟩
theorem Ok.cx {X' : Cx} (o : Ok X k T st H) : Ok X' k T st H := ⟨o.dom, o.loc, o.rel⟩
theorem wipeE_get : ∀ {vs : List Nat} {ρ : Env} {i : Nat} {d : PyData}, (wipeE ρ vs)[i]? = some (some d) → ρ[i]? = some (some d) ∧ i ∉ vs
  | [], _, _, _, h => ⟨h, by simp⟩
  | v :: vs, ρ, i, d, h => by
    unfold wipeE at h
    by_cases hi : v = i
    · subst hi
      by_cases hv : v < (wipeE ρ vs).length
      · rw [List.getElem?_set_self hv] at h; cases h
      · rw [List.getElem?_eq_none (by simpa using hv)] at h; cases h
    · rw [List.getElem?_set_ne hi] at h
      obtain ⟨h1, h2⟩ := wipeE_get h
      exact ⟨h1, by simp only [List.mem_cons, not_or]; exact ⟨fun e => hi e.symm, h2⟩⟩
theorem wipeE_len (ρ : Env) : ∀ vs : List Nat, (wipeE ρ vs).length = ρ.length
  | [] => rfl
  | v :: vs => by unfold wipeE; rw [List.length_set, wipeE_len ρ vs]
theorem wipe_keep {σ : L2.St} {i : Nat} : ∀ {vs : List Nat}, i ∉ vs → (wipe σ vs)[i]? = σ[i]?
  | [], _ => rfl
  | v :: vs, h => by
    simp only [List.mem_cons, not_or] at h
    unfold wipe
    rw [List.getElem?_set_ne (Ne.symm h.1)]
    exact wipe_keep h.2
theorem EnvR.wipe {vs : List Nat} (n : EnvR X k T L ρ σ H) (hs : ∀ p, k.slot = some p → p.1 ∉ vs) : EnvR X k T L (wipeE ρ vs) (L2.wipe σ vs) H := by
  refine ⟨fun i hi d e => ?_, fun p hp => ?_, by rw [wipeE_len, wipe_length]; exact n.len⟩
  · obtain ⟨h1, h2⟩ := wipeE_get e
    obtain ⟨v, a, b⟩ := n.v i hi d h1
    exact ⟨v, by rw [wipe_keep h2]; exact a, b⟩
  · rw [wipe_keep (hs p hp)]; exact n.ds p hp
theorem wipe_set {σ : L2.St} {i : Nat} {o : Option V} : ∀ {vs : List Nat}, i ∈ vs → wipe (σ.set i o) vs = wipe σ vs
  | v :: vs, h => by
    unfold wipe
    by_cases hv : i ∈ vs
    · rw [wipe_set hv]
    · have e : v = i := by
        rcases List.mem_cons.mp h with z | z
        · exact z.symm
        · exact absurd z hv
      subst e
      apply List.ext_getElem?
      intro j
      by_cases hj : v = j
      · subst hj
        by_cases hl : v < (wipe σ vs).length
        · rw [List.getElem?_set_self hl, List.getElem?_set_self (by rw [wipe_length] at hl ⊢; simpa using hl)]
        · have e1 : (wipe (σ.set v o) vs).length = (wipe σ vs).length := by rw [wipe_length, wipe_length, List.length_set]
          rw [List.getElem?_eq_none (by rw [List.length_set, e1]; omega), List.getElem?_eq_none (by rw [List.length_set]; omega)]
      · rw [List.getElem?_set_ne hj, List.getElem?_set_ne hj]
        by_cases hjv : j ∈ vs
        · have a1 : ∀ (τ : L2.St) (us : List Nat), j ∈ us → ∀ x, (wipe τ us)[j]? = some (some x) → False := fun τ us hm x e => (wipe_some e).2 hm
          have b1 := a1 (σ.set v o) vs hjv
          have b2 := a1 σ vs hjv
          cases q : (wipe (σ.set v o) vs)[j]? with
          | none =>
            have := List.getElem?_eq_none_iff.mp q
            rw [wipe_length, List.length_set] at this
            rw [List.getElem?_eq_none (by rw [wipe_length]; exact this)]
          | some y =>
            cases y with
            | some y => exact (b1 y q).elim
            | none =>
              have hlt := (List.getElem?_eq_some_iff.mp q).1
              rw [wipe_length, List.length_set] at hlt
              cases q2 : (wipe σ vs)[j]? with
              | none => rw [List.getElem?_eq_none_iff, wipe_length] at q2; omega
              | some y2 => cases y2 with
                | none => rfl
                | some y2 => exact (b2 y2 q2).elim
        · rw [wipe_keep hjv, wipe_keep hjv, List.getElem?_set_ne hj]
theorem wipe_setAll {vs : List Nat} : ∀ {is : List Nat} {ws : List V} {σ : L2.St}, (∀ i ∈ is, i ∈ vs) → wipe (setAllS is ws σ) vs = wipe σ vs
  | [], ws, σ, _ => by cases ws <;> rfl
  | i :: is, [], σ, _ => rfl
  | i :: is, w :: ws, σ, h => by
    show wipe (setAllS is ws (σ.set i (some w))) vs = _
    rw [wipe_setAll fun j hj => h j (List.mem_cons_of_mem _ hj), wipe_set (h i List.mem_cons_self)]
theorem wipe_wipe (σ : L2.St) (vs : List Nat) : wipe (wipe σ vs) vs = wipe σ vs := by
  have key : ∀ us : List Nat, (∀ i ∈ us, i ∈ vs) → wipe (wipe σ us) vs = wipe σ vs := by
    intro us
    induction us with
    | nil => intro _; rfl
    | cons u us ih =>
      intro h
      show wipe ((wipe σ us).set u none) vs = _
      rw [wipe_set (h u List.mem_cons_self), ih fun i hi => h i (List.mem_cons_of_mem _ hi)]
  exact key vs fun _ h => h
end

/-! ### what is walked -/
/-- J yields the items, in every later heap -/
def JW (T : Addr → Prop) (items : List PyData) (J : L2.It) (H1 : Hp) : Prop := ∀ (i : Nat) (H' : Hp) (T' : Addr → Prop), Mv T T' H1 H' → Dom T' H' →
  (i < items.length → J.go i H' ∧ ∀ x H2, J.yld i H' x H2 → (∃ d, items[i]? = some d ∧ Rep T' H2 d x) ∧ Ext NoT H' H2) ∧ (items.length ≤ i → J.stop i H')
def wI (X : Cx) (tg iter : Expr) : TI := fun σ H R => ∀ (pins : List (Addr × Obj)) (s : Shared), Inv X pins σ H s →
  wpAny (model X.prog X.w) X.A (eval iter X.env) (fun v s1 => wpAny (model X.prog X.w) X.A (pyIter v) (PIE X pins σ tg R) X.xe s1) X.xe s
theorem pi_w {X : Cx} {tg iter : Expr} : PI X tg iter (wI X tg iter) := ⟨fun pins s σ H R I h => h pins s I⟩
theorem _root_.L2.PI.w {X : Cx} {tg iter : Expr} {t : TI} {σ : L2.St} {H : Hp} {R : L2.It → Hp → Prop} (h : PI X tg iter t) (q : t σ H R) : wI X tg iter σ H R := fun pins s I => h.run pins s σ H R I q
section
variable {S : Type} {X : Cx} {k : SK S} {T T' : Addr → Prop} {σ : L2.St} {H H' : Hp} {ρ : Env} {st : S} {L : List Nat} {W : WX}
def PostI (X : Cx) (k : SK S) (T : Addr → Prop) (σ : L2.St) (H : Hp) (r : R (List PyData × S)) (Q : L2.It → Hp → Prop) (W : WX) : Prop := match r with
  | .ok (items, st) => ∀ J H', JW T items J H' → items.length ≤ sizeLine → Ext k.loc H H' → k.rel st H' → Q J H'
  | .exc x l => ∀ cls dx H', XcIs X.mg x l cls dx H' → Ext k.loc H H' → W cls dx σ H'
  | .bad => False
def SI (X : Cx) (k : SK S) (tg : Expr) (c : Mir.It S) (e : Expr) : Prop := ∀ (T : Addr → Prop) (ρ : Env) (st : S) (σ : L2.St) (H : Hp) (Q : L2.It → Hp → Prop) (W : WX),
  EnvR X k T (fvI c) ρ σ H → Ok X k T st H → Takes X W → PostI X k T σ H (evIt c ρ st) Q W → wI X tg e σ H Q
theorem JW.list {items : List PyData} {a : Addr} {xs : List V} {K : PySem.W.Frag} (n : ¬ T a) (h : H a = some (.lst xs)) (r : RepL T H items xs) : JW T items (Itl K a) H := fun i H' T' m dm => by
  have h' := m.h a _ n h
  have r' := RepL.mv m _ _ r
  refine ⟨fun hi => ?_, fun hi => ⟨xs, .of h', by rw [← r.length]; exact hi⟩⟩
  obtain ⟨x, e1, e2⟩ := r'.get (List.getElem?_eq_getElem hi)
  refine ⟨⟨xs, x, .of h', e1⟩, fun y H2 hy => ?_⟩
  obtain ⟨rfl, hy⟩ := hy
  have := hy xs (.of h')
  rw [e1] at this; cases this
  exact ⟨⟨_, List.getElem?_eq_getElem hi, e2⟩, .refl⟩
theorem JW.tup {items : List PyData} {a : Addr} {xs : List V} {K : PySem.W.Frag} (n : ¬ T a) (h : H a = some (.tup xs)) (r : RepL T H items xs) : JW T items (Itt K a) H := fun i H' T' m dm => by
  have h' := m.h a _ n h
  have r' := RepL.mv m _ _ r
  refine ⟨fun hi => ?_, fun hi => ⟨xs, .of h', by rw [← r.length]; exact hi⟩⟩
  obtain ⟨x, e1, e2⟩ := r'.get (List.getElem?_eq_getElem hi)
  refine ⟨⟨xs, x, .of h', e1⟩, fun y H2 hy => ?_⟩
  obtain ⟨rfl, hy⟩ := hy
  have := hy xs (.of h')
  rw [e1] at this; cases this
  exact ⟨⟨_, List.getElem?_eq_getElem hi, e2⟩, .refl⟩
theorem JW.range {lo : Int} {n : Nat} : JW T (rangeD lo n) (Itr lo n) H := fun i H' T' m dm => by
  have hl : (rangeD lo n).length = n := by simp [rangeD]
  refine ⟨fun hi => ?_, fun hi => by rw [hl] at hi; exact hi⟩
  rw [hl] at hi
  refine ⟨hi, fun y H2 hy => ?_⟩
  obtain ⟨rfl, rfl⟩ := hy
  exact ⟨⟨.int (lo + i), by simp [rangeD, hi], .mkInt⟩, .refl⟩
theorem JW.sign {z : Str} : JW T (z.cps.toList.map fun c => .str ⟨#[c]⟩) (Its z) H := fun i H' T' m dm => by
  have hl : (z.cps.toList.map fun c => PyData.str ⟨#[c]⟩).length = z.cps.size := by simp
  refine ⟨fun hi => ?_, fun hi => by rw [hl] at hi; exact hi⟩
  rw [hl] at hi
  refine ⟨hi, fun y H2 hy => ?_⟩
  obtain ⟨rfl, c, hc, rfl⟩ := hy
  exact ⟨⟨.str ⟨#[c]⟩, by simp [hc], .mkStr (by show 1 ≤ sizeLine; rw [sizeLine_eq]; omega)⟩, .refl⟩
theorem SqL_inj {K : PySem.W.Frag} {a : Addr} {xs : List V} (h : H a = some (.lst xs)) {ys : List V} : SqL K H a ys → (K.lookup a = none) → ys = xs := by
  intro q hk
  rcases q with (q | ⟨o, q⟩) | ⟨o, its, n, q, _⟩
  · rw [h] at q; cases q; rfl
  · rw [h] at q; cases q
  · rw [hk] at q; cases q
theorem JW.zipL {items ys : List PyData} {a b : Addr} {xs zs : List V} {K : PySem.W.Frag} (n : ¬ T a) (h : H a = some (.lst xs)) (r : RepL T H items xs) (n2 : ¬ T b) (h2 : H b = some (.lst zs)) (r2 : RepL T H ys zs) :
    JW T ((items.zip ys).map fun p => .tuple [p.1, p.2]) (Itz K a b) H := fun i H' T' m dm => by
  have h' := m.h a _ n h
  have r' := RepL.mv m _ _ r
  have h2' := m.h b _ n2 h2
  have r2' := RepL.mv m _ _ r2
  have hl : ((items.zip ys).map fun p => PyData.tuple [p.1, p.2]).length = min items.length ys.length := by simp
  refine ⟨fun hi => ?_, fun hi => ⟨xs, zs, .of h', .of h2', by rw [hl] at hi; rw [← r.length, ← r2.length]; omega⟩⟩
  rw [hl] at hi
  have hi1 : i < items.length := by omega
  have hi2 : i < ys.length := by omega
  obtain ⟨x, e1, e2⟩ := r'.get (List.getElem?_eq_getElem hi1)
  obtain ⟨y, f1, f2⟩ := r2'.get (List.getElem?_eq_getElem hi2)
  refine ⟨⟨xs, zs, x, y, .of h', .of h2', e1, f1⟩, fun v H2 hv => ?_⟩
  obtain ⟨q, x', y', rfl, hq, rfl, hx, hy⟩ := hv
  have ex := hx xs (.of h')
  have ey := hy zs (.of h2')
  rw [e1] at ex; cases ex
  rw [f1] at ey; cases ey
  refine ⟨⟨.tuple [items[i], ys[i]], ?_, ?_⟩, Ext.laid hq⟩
  · rw [List.getElem?_map, List.getElem?_eq_getElem (by simp; omega)]
    simp
  · exact .mkTuple (dm q hq) upd_same (by show 2 ≤ sizeLine; rw [sizeLine_eq]; omega) (.cons (e2.laid hq) (.cons (f2.laid hq) .nil))
theorem JW.zipT {items ys : List PyData} {a b : Addr} {xs zs : List V} {K : PySem.W.Frag} (n : ¬ T a) (h : H a = some (.tup xs)) (r : RepL T H items xs) (n2 : ¬ T b) (h2 : H b = some (.tup zs)) (r2 : RepL T H ys zs) :
    JW T ((items.zip ys).map fun p => .tuple [p.1, p.2]) (RZ.ItzT K a b) H := fun i H' T' m dm => by
  have h' := m.h a _ n h
  have r' := RepL.mv m _ _ r
  have h2' := m.h b _ n2 h2
  have r2' := RepL.mv m _ _ r2
  have hl : ((items.zip ys).map fun p => PyData.tuple [p.1, p.2]).length = min items.length ys.length := by simp
  refine ⟨fun hi => ?_, fun hi => ⟨xs, zs, .of h', .of h2', by rw [hl] at hi; rw [← r.length, ← r2.length]; omega⟩⟩
  rw [hl] at hi
  have hi1 : i < items.length := by omega
  have hi2 : i < ys.length := by omega
  obtain ⟨x, e1, e2⟩ := r'.get (List.getElem?_eq_getElem hi1)
  obtain ⟨y, f1, f2⟩ := r2'.get (List.getElem?_eq_getElem hi2)
  refine ⟨⟨xs, zs, x, y, .of h', .of h2', e1, f1⟩, fun v H2 hv => ?_⟩
  obtain ⟨q, x', y', rfl, hq, rfl, hx, hy⟩ := hv
  have ex := hx xs (.of h')
  have ey := hy zs (.of h2')
  rw [e1] at ex; cases ex
  rw [f1] at ey; cases ey
  refine ⟨⟨.tuple [items[i], ys[i]], ?_, ?_⟩, Ext.laid hq⟩
  · rw [List.getElem?_map, List.getElem?_eq_getElem (by simp; omega)]
    simp
  · exact .mkTuple (dm q hq) upd_same (by show 2 ≤ sizeLine; rw [sizeLine_eq]; omega) (.cons (e2.laid hq) (.cons (f2.laid hq) .nil))
theorem JW.enum {items : List PyData} {a : Addr} {xs : List V} {K : PySem.W.Frag} (n : ¬ T a) (h : H a = some (.lst xs)) (r : RepL T H items xs) : JW T (items.zipIdx.map fun p => .tuple [.int p.2, p.1]) (Ite K a) H := fun i H' T' m dm => by
  have h' := m.h a _ n h
  have r' := RepL.mv m _ _ r
  have hl : (items.zipIdx.map fun p => PyData.tuple [.int p.2, p.1]).length = items.length := by simp
  refine ⟨fun hi => ?_, fun hi => ⟨xs, .of h', by rw [hl] at hi; rw [← r.length]; exact hi⟩⟩
  rw [hl] at hi
  obtain ⟨x, e1, e2⟩ := r'.get (List.getElem?_eq_getElem hi)
  refine ⟨⟨xs, x, .of h', e1⟩, fun v H2 hv => ?_⟩
  obtain ⟨q, x', rfl, hq, rfl, hx⟩ := hv
  have ex := hx xs (.of h')
  rw [e1] at ex; cases ex
  refine ⟨⟨.tuple [.int i, items[i]], ?_, ?_⟩, Ext.laid hq⟩
  · rw [List.getElem?_map, List.getElem?_zipIdx, List.getElem?_eq_getElem hi]
    simp
  · exact .mkTuple (dm q hq) upd_same (by show 2 ≤ sizeLine; rw [sizeLine_eq]; omega) (.cons .mkInt (.cons (e2.laid hq) .nil))

theorem JW.ez {items ys : List PyData} {a b : Addr} {xs zs : List V} {K : PySem.W.Frag} (n : ¬ T a) (h : H a = some (.lst xs)) (r : RepL T H items xs) (n2 : ¬ T b) (h2 : H b = some (.lst zs)) (r2 : RepL T H ys zs) :
    JW T ((items.zip ys).zipIdx.map fun p => .tuple [.int p.2, .tuple [p.1.1, p.1.2]]) (Itez K a b) H := fun i H' T' m dm => by
  have h' := m.h a _ n h
  have r' := RepL.mv m _ _ r
  have h2' := m.h b _ n2 h2
  have r2' := RepL.mv m _ _ r2
  have hl : ((items.zip ys).zipIdx.map fun p => PyData.tuple [.int p.2, .tuple [p.1.1, p.1.2]]).length = min items.length ys.length := by simp
  refine ⟨fun hi => ?_, fun hi => ⟨xs, zs, .of h', .of h2', by rw [hl] at hi; rw [← r.length, ← r2.length]; omega⟩⟩
  rw [hl] at hi
  have hi1 : i < items.length := by omega
  have hi2 : i < ys.length := by omega
  obtain ⟨x, e1, e2⟩ := r'.get (List.getElem?_eq_getElem hi1)
  obtain ⟨y, f1, f2⟩ := r2'.get (List.getElem?_eq_getElem hi2)
  refine ⟨⟨xs, zs, x, y, .of h', .of h2', e1, f1⟩, fun v H2 hv => ?_⟩
  obtain ⟨q, u, x', y', rfl, hq, hu, ne, rfl, hx, hy⟩ := hv
  have ex := hx xs (.of h')
  have ey := hy zs (.of h2')
  rw [e1] at ex; cases ex
  rw [f1] at ey; cases ey
  have hu' : (upd H' q (.tup [x, y])) u = none := by rw [upd_ne ne]; exact hu
  have two : 2 ≤ sizeLine := by rw [sizeLine_eq]; omega
  refine ⟨⟨.tuple [.int i, .tuple [items[i], ys[i]]], ?_, ?_⟩, (Ext.laid hq).trans (Ext.laid hu')⟩
  · rw [List.getElem?_map, List.getElem?_zipIdx, List.getElem?_eq_getElem (by simp; omega)]
    simp
  · have inner : Rep T' (upd H' q (.tup [x, y])) (.tuple [items[i], ys[i]]) (.ref q) := .mkTuple (dm q hq) upd_same two (.cons (e2.laid hq) (.cons (f2.laid hq) .nil))
    exact .mkTuple (dm u hu) upd_same two (.cons .mkInt (.cons (inner.laid hu') .nil))
theorem JW.zip3 {items ys ws : List PyData} {a b c : Addr} {xs zs us : List V} {K : PySem.W.Frag} (n : ¬ T a) (h : H a = some (.lst xs)) (r : RepL T H items xs) (n2 : ¬ T b) (h2 : H b = some (.lst zs)) (r2 : RepL T H ys zs) (n3 : ¬ T c) (h3 : H c = some (.lst us)) (r3 : RepL T H ws us) :
    JW T ((items.zip (ys.zip ws)).map fun p => .tuple [p.1, p.2.1, p.2.2]) (Itz3 K a b c) H := fun i H' T' m dm => by
  have h' := m.h a _ n h
  have r' := RepL.mv m _ _ r
  have h2' := m.h b _ n2 h2
  have r2' := RepL.mv m _ _ r2
  have h3' := m.h c _ n3 h3
  have r3' := RepL.mv m _ _ r3
  have hl : ((items.zip (ys.zip ws)).map fun p => PyData.tuple [p.1, p.2.1, p.2.2]).length = min items.length (min ys.length ws.length) := by simp
  refine ⟨fun hi => ?_, fun hi => ⟨xs, zs, us, .of h', .of h2', .of h3', by rw [hl] at hi; rw [← r.length, ← r2.length, ← r3.length]; omega⟩⟩
  rw [hl] at hi
  have hi1 : i < items.length := by omega
  have hi2 : i < ys.length := by omega
  have hi3 : i < ws.length := by omega
  obtain ⟨x, e1, e2⟩ := r'.get (List.getElem?_eq_getElem hi1)
  obtain ⟨y, f1, f2⟩ := r2'.get (List.getElem?_eq_getElem hi2)
  obtain ⟨z, g1, g2⟩ := r3'.get (List.getElem?_eq_getElem hi3)
  refine ⟨⟨xs, zs, us, x, y, z, .of h', .of h2', .of h3', e1, f1, g1⟩, fun v H2 hv => ?_⟩
  obtain ⟨q, x', y', z', rfl, hq, rfl, hx, hy, hz⟩ := hv
  have ex := hx xs (.of h')
  have ey := hy zs (.of h2')
  have ez := hz us (.of h3')
  rw [e1] at ex; cases ex
  rw [f1] at ey; cases ey
  rw [g1] at ez; cases ez
  refine ⟨⟨.tuple [items[i], ys[i], ws[i]], ?_, ?_⟩, Ext.laid hq⟩
  · rw [List.getElem?_map, List.getElem?_eq_getElem (by simp; omega)]
    simp
  · exact .mkTuple (dm q hq) upd_same (by show 3 ≤ sizeLine; rw [sizeLine_eq]; omega) (.cons (e2.laid hq) (.cons (f2.laid hq) (.cons (g2.laid hq) .nil)))
/-- a list or tuple that is there is walked -/
theorem iter_items {pins : List (Addr × Obj)} {s : Shared} {tg : Expr} {R : L2.It → Hp → Prop} {E : Value → Shared → Prop} {d : PyData} {items : List PyData} {x : V} {v : Value} (I : Inv X pins σ H s) (h : itemsR d = .ok items) (r : Rep T H d x) (rx : RelV x v)
    (q : ∀ J, JW T items J H → items.length ≤ sizeLine → R J H) : wpAny (model X.prog X.w) X.A (pyIter v) (PIE X pins σ tg R) E s := by
  obtain ⟨a, xs, rfl, n, c, z, rr⟩ := itemsR_rep h r
  obtain rfl : v = .ref a := rx
  rcases c with ⟨rfl, hp⟩ | ⟨rfl, hp⟩
  · obtain ⟨its, rv, p, hz⟩ := I.list (.of hp)
    refine wpAny_pyIter_list p.isList ?_
    refine ⟨s.heap.objs.size, [s.heap.objs.size], _, _, H, rfl, I.kept (t' := s.toks) fun b o e => Heap.get?_push_of_some _ e, turn_list a _, ⟨_, Heap.get?_push_size _ rfl, rfl, rfl⟩, fun b hb => ?_, q _ (.list n hp rr) (by rw [rr.length]; exact z)⟩
    have e : b = s.heap.objs.size := by simpa using hb
    subst e
    exact I.fpOk (Nat.le_refl _) (I.hok.fresh (Nat.le_refl _))
  · obtain ⟨its, rv, p, hz⟩ := I.tuple (.of hp)
    refine wpAny_pyIter_tuple (show s.heap.IsTuple a its.toArray from p) ?_
    refine ⟨s.heap.objs.size, [s.heap.objs.size], _, _, H, rfl, I.kept (t' := s.toks) fun b o e => Heap.get?_push_of_some _ e, turn_tuple a _, ⟨_, Heap.get?_push_size _ rfl, rfl, rfl⟩, fun b hb => ?_, q _ (.tup n hp rr) (by rw [rr.length]; exact z)⟩
    have e : b = s.heap.objs.size := by simpa using hb
    subst e
    exact I.fpOk (Nat.le_refl _) (I.hok.fresh (Nat.le_refl _))
/-- a part, then a walk -/
theorem SE.thenI {c : E S} {e : Expr} (h : SE X k c e) {g : PyData → M S (List PyData)} {Q : VK} {Q' : L2.It → Hp → Prop} (n : EnvR X k T (fv c) ρ σ H) (o : Ok X k T st H) (t : Takes X W) (p : PostI X k T σ H (bnd (ev c ρ) g st) Q' W)
    (q : ∀ d st' v H', Rep T H' d v → Ext k.loc H H' → Ok X k T st' H' → PostI X k T σ H' (g d st') Q' W → Q v H') : wE X e σ H Q := by
  refine h T ρ st σ H Q W n o t ?_
  unfold bnd R.bind at p
  unfold PostE
  cases hr : ev c ρ st with
  | ok a =>
    obtain ⟨d, st'⟩ := a
    rw [hr] at p
    refine fun v H' r e k' => q d st' v H' r e (o.next e k') ?_
    have p : PostI X k T σ H (g d st') Q' W := p
    unfold PostI at p ⊢
    cases hg : g d st' with
    | ok a => rw [hg] at p; exact fun J H2 j z e2 => p J H2 j z (e.trans e2)
    | exc x l => rw [hg] at p; exact fun cls dx H2 hx e2 => p cls dx H2 hx (e.trans e2)
    | bad => rw [hg] at p; exact p
  | exc x l => rw [hr] at p; exact p
  | bad => rw [hr] at p; exact p
theorem PostI.there {r : R (List PyData)} {Q : L2.It → Hp → Prop} (p : PostI X k T σ H (lft r st) Q W) (nx : ∀ n l, r ≠ .exc n l) : ∃ d, r = .ok d ∧ ∀ J H', JW T d J H' → d.length ≤ sizeLine → Ext k.loc H H' → k.rel st H' → Q J H' := by
  cases r with
  | ok d => exact ⟨d, rfl, p⟩
  | exc x l => exact (nx _ _ rfl).elim
  | bad => exact p.elim
theorem si_of {a : E S} {ea tg : Expr} (ha : SE X k a ea) : SI X k tg (.of a) ea := fun T ρ st σ H Q W n o t p pins s I => by
  simp only [evIt] at p
  refine thn ((ha.thenI (Q := fun v H1 => ∃ d items, itemsR d = .ok items ∧ Rep T H1 d v ∧ ∀ J, JW T items J H1 → items.length ≤ sizeLine → Q J H1) n o t p fun d st1 v H1 r1 e1 o1 p1 => ?_) pins s I) fun v s1 ⟨x, H1, I1, r1, q⟩ => ?_
  · obtain ⟨items, hi, q⟩ := p1.there fun n l => itemsR_nx
    exact ⟨d, items, hi, r1, fun J j z => q J H1 j z .refl o1.rel⟩
  · obtain ⟨d, items, hi, rep, q⟩ := q
    exact iter_items I1 hi rep r1 q
theorem si_sign {a : E S} {ea tg : Expr} (ha : SE X k a ea) : SI X k tg (.sign a) ea := fun T ρ st σ H Q W n o t p => by
  simp only [evIt] at p
  refine (pi_str pe_w).w ?_
  refine ha.thenI n o t p fun d st1 v H1 r1 e1 o1 p1 => ?_
  obtain ⟨items, hi, q⟩ := p1.there fun n l h => by unfold signD at h; split at h <;> cases h
  unfold signD at hi
  split at hi
  · rename_i z
    cases hi
    obtain ⟨e, hz⟩ := r1.str_inv
    exact ⟨z, e, q _ H1 .sign (by simpa [Str.length] using hz) .refl o1.rel⟩
  · cases hi
theorem si_range1 {a : E S} {ea tg : Expr} {pn pos : Pos} (hg : Gl X "range") (hm : X.mg "range" = none) (ha : SE X k a ea) (hk : okE ea = true) : SI X k tg (.range1 a) (.Call (.Name "range" pn) [ea] [] pos) := fun T ρ st σ H Q W n o t p => by
  simp only [evIt] at p
  refine (pi_range1 hg hm (pa_cons pe_w pa_nil (star_cons hk _ _)) (star_cons hk _ _)).w ?_
  refine ha.thenI n o t p fun d st1 v H1 r1 e1 o1 p1 => ?_
  have hs : sizeLine = 16777216 := sizeLine_eq
  obtain ⟨items, hi, q⟩ := p1.there fun n l h => int_then h fun i h => by split at h <;> cases h
  obtain ⟨j, hj, hi⟩ := bind_ok hi
  split at hi
  · rename_i hb
    cases hi
    rw [intR_ok hj] at r1
    refine ⟨j, by rw [r1.int_inv], hb.2, by omega, q _ H1 .range ?_ .refl o1.rel⟩
    simp [rangeD]; omega
  · cases hi
theorem si_range2 {a b : E S} {ea eb tg : Expr} {pn pos : Pos} (hg : Gl X "range") (hm : X.mg "range" = none) (ha : SE X k a ea) (hb : SE X k b eb) (hk : okE ea = true) (hk2 : okE eb = true) : SI X k tg (.range2 a b) (.Call (.Name "range" pn) [ea, eb] [] pos) := fun T ρ st σ H Q W n o t p => by
  simp only [evIt] at p
  refine (pi_range2 hg hm (pa_cons pe_w (pa_cons pe_w pa_nil (star_cons hk2 _ _)) (star_cons hk _ _)) (by rw [star_cons hk, star_cons hk2]; rfl) (star_cons hk2 _ _)).w ?_
  refine ha.thenI n.left o t p fun d st1 v H1 r1 e1 o1 p1 => ?_
  refine hb.thenI (n.right.next (o.extT e1)) o1 t p1 fun d2 st2 v2 H2 r2 e2 o2 p2 => ?_
  obtain ⟨items, hi, q⟩ := p2.there fun n l h => int_then h fun i h => int_then h fun j h => by split at h <;> cases h
  obtain ⟨i, hi', hi⟩ := bind_ok hi
  obtain ⟨j, hj', hi⟩ := bind_ok hi
  split at hi
  · rename_i hc
    cases hi
    rw [intR_ok hi'] at r1
    rw [intR_ok hj'] at r2
    refine ⟨i, j, by rw [r1.int_inv, r2.int_inv], ⟨hc.1, hc.2.1, hc.2.2.1, hc.2.2.2.1⟩, q _ H2 .range ?_ .refl o2.rel⟩
    have := hc.2.2.2.2
    simp [rangeD]; omega
  · cases hi

theorem JW.range3 {lo c : Int} {n : Nat} : JW T ((List.range n).map fun (k : Nat) => PyData.int (lo + (k : Int) * c)) (Itc lo c n) H := fun i H' T' m dm => by
  have hl : ((List.range n).map fun (k : Nat) => PyData.int (lo + (k : Int) * c)).length = n := by simp
  refine ⟨fun hi => ?_, fun hi => by rw [hl] at hi; exact hi⟩
  rw [hl] at hi
  refine ⟨hi, fun y H2 hy => ?_⟩
  obtain ⟨rfl, rfl⟩ := hy
  exact ⟨⟨.int (lo + (i : Int) * c), by simp [hi], .mkInt⟩, .refl⟩
theorem si_range3 {a b c : E S} {ea eb ec tg : Expr} {pn pos : Pos} (hg : Gl X "range") (hm : X.mg "range" = none) (ha : SE X k a ea) (hb : SE X k b eb) (hc : SE X k c ec) (hk : okE ea = true) (hk2 : okE eb = true) (hk3 : okE ec = true) : SI X k tg (.range3 a b c) (.Call (.Name "range" pn) [ea, eb, ec] [] pos) := fun T ρ st σ H Q W n o t p => by
  simp only [evIt] at p
  refine (pi_range3 hg hm (pa_cons pe_w (pa_cons pe_w (pa_cons pe_w pa_nil (star_cons hk3 _ _)) (star_cons hk2 _ _)) (star_cons hk _ _)) (star_cons hk _ _) (back_ok _ _ (by simp [hk2, hk3]))).w ?_
  refine ha.thenI n.left o t p fun d st1 v H1 r1 e1 o1 p1 => ?_
  refine hb.thenI (n.right.left.next (o.extT e1)) o1 t p1 fun d2 st2 v2 H2 r2 e2 o2 p2 => ?_
  refine hc.thenI (n.right.right.next ((o.extT e1).trans (o1.extT e2))) o2 t p2 fun d3 st3 v3 H3 r3 e3 o3 p3 => ?_
  obtain ⟨items, hi, q⟩ := p3.there fun n l h => int_then h fun i h => int_then h fun j h => int_then h fun k h => by unfold range3D at h; split at h <;> cases h
  obtain ⟨i, hi', hi⟩ := bind_ok hi
  obtain ⟨j, hj', hi⟩ := bind_ok hi
  obtain ⟨k, hk', hi⟩ := bind_ok hi
  unfold range3D at hi
  split at hi
  · rename_i hc
    cases hi
    rw [intR_ok hi'] at r1
    rw [intR_ok hj'] at r2
    rw [intR_ok hk'] at r3
    refine ⟨i, j, k, (Builtin.Range.rangeSize i j k).toNat, by rw [r1.int_inv, r2.int_inv, r3.int_inv], ⟨hc.1, hc.2.1, hc.2.2.1, (Int.toNat_of_nonneg hc.2.2.2.1).symm⟩, q _ H3 .range3 ?_ .refl o3.rel⟩
    have := hc.2.2.2.2
    simp; omega
  · cases hi
theorem JW.revL {items : List PyData} {a : Addr} {xs : List V} {K : PySem.W.Frag} (n : ¬ T a) (h : H a = some (.lst xs)) (r : RepL T H items xs) : JW T items.reverse (Itv K a xs.length) H := fun i H' T' m dm => by
  have h' := m.h a _ n h
  have r' := RepL.reverse (RepL.mv m _ _ r)
  have hl := r.length
  refine ⟨fun hi => ?_, fun hi => ?_⟩
  · rw [List.length_reverse] at hi
    obtain ⟨x, e1, e2⟩ := r'.get (List.getElem?_eq_getElem (by rw [List.length_reverse]; exact hi))
    have e3 : xs[xs.length - 1 - i]? = some x := by rw [← List.getElem?_reverse (by omega)]; exact e1
    refine ⟨⟨by omega, xs, x, .of h', e3⟩, fun y H2 hy => ?_⟩
    obtain ⟨rfl, hy⟩ := hy
    have := hy xs (.of h')
    rw [e3] at this; cases this
    exact ⟨⟨_, List.getElem?_eq_getElem (by rw [List.length_reverse]; exact hi), e2⟩, .refl⟩
  · rw [List.length_reverse] at hi
    show xs.length ≤ i
    omega
theorem JW.revT {items : List PyData} {a : Addr} {xs : List V} {K : PySem.W.Frag} (n : ¬ T a) (h : H a = some (.tup xs)) (r : RepL T H items xs) : JW T items.reverse (RT.ItvT K a xs.length) H := fun i H' T' m dm => by
  have h' := m.h a _ n h
  have r' := RepL.reverse (RepL.mv m _ _ r)
  have hl := r.length
  refine ⟨fun hi => ?_, fun hi => ?_⟩
  · rw [List.length_reverse] at hi
    obtain ⟨x, e1, e2⟩ := r'.get (List.getElem?_eq_getElem (by rw [List.length_reverse]; exact hi))
    have e3 : xs[xs.length - 1 - i]? = some x := by rw [← List.getElem?_reverse (by omega)]; exact e1
    refine ⟨⟨by omega, xs, x, .of h', e3⟩, fun y H2 hy => ?_⟩
    obtain ⟨rfl, hy⟩ := hy
    have := hy xs (.of h')
    rw [e3] at this; cases this
    exact ⟨⟨_, List.getElem?_eq_getElem (by rw [List.length_reverse]; exact hi), e2⟩, .refl⟩
  · rw [List.length_reverse] at hi
    show xs.length ≤ i
    omega
theorem si_rev {a : E S} {ea tg : Expr} {pn pos : Pos} (hg : Gl X "reversed") (hm : X.mg "reversed" = none) (ha : SE X k a ea) (hk : okE ea = true) : SI X k tg (.rev a) (.Call (.Name "reversed" pn) [ea] [] pos) := fun T ρ st σ H Q W n o t p => by
  simp only [evIt] at p
  refine (RT.pi_revA hg hm pe_w (star_cons hk _ _)).w ?_
  refine ha.thenI n o t p fun d st1 v H1 r1 e1 o1 p1 => ?_
  obtain ⟨items, hi, q⟩ := p1.there fun n l h => by
    cases d <;> cases h
  cases d with
  | list ds =>
    cases hi
    obtain ⟨a, xs, rfl, n1, h1, z1, q1⟩ := r1.list_inv
    refine ⟨a, xs, rfl, .inl ⟨.of h1, q _ H1 (.revL n1 h1 q1) ?_ .refl o1.rel⟩⟩
    have := q1.length
    simp; omega
  | tuple ds =>
    cases hi
    obtain ⟨a, xs, rfl, n1, h1, z1, q1⟩ := r1.tuple_inv
    refine ⟨a, xs, rfl, .inr ⟨.of h1, q _ H1 (.revT n1 h1 q1) ?_ .refl o1.rel⟩⟩
    have := q1.length
    simp; omega
  | _ => cases hi
theorem si_zip {a b : E S} {ea eb : Expr} {elts : List Expr} {kk : Nat} {tp pn pos : Pos} (hg : Gl X "zip") (hm : X.mg "zip" = none) (ha : SE X k a ea) (hb : SE X k b eb) (hk : okE ea = true) (hk2 : okE eb = true) : SI X k (.Tuple elts kk tp) (.zip a b) (.Call (.Name "zip" pn) [ea, eb] [] pos) := fun T ρ st σ H Q W n o t p => by
  simp only [evIt] at p
  refine (RZ.pi_zipA hg hm (pa_cons pe_w (pa_cons pe_w pa_nil (star_cons hk2 _ _)) (star_cons hk _ _)) (star_cons hk _ _) (back_ok _ _ (by simp [hk2]))).w ?_
  refine ha.thenI n.left o t p fun d st1 v H1 r1 e1 o1 p1 => ?_
  refine hb.thenI (n.right.next (o.extT e1)) o1 t p1 fun d2 st2 v2 H2 r2 e2 o2 p2 => ?_
  obtain ⟨items, hi, q⟩ := p2.there fun n l h => by unfold zipD at h; split at h <;> cases h
  have r1 := r1.ext (o1.extT e2)
  unfold zipD at hi
  split at hi
  · cases hi
    obtain ⟨a, xs, rfl, n1, h1, z1, q1⟩ := r1.list_inv
    obtain ⟨b, ys, rfl, n2, h2, z2, q2⟩ := r2.list_inv
    refine ⟨a, b, xs, ys, rfl, .inl ⟨.of h1, .of h2, q _ H2 (.zipL n1 h1 q1 n2 h2 q2) ?_ .refl o2.rel⟩⟩
    have := q1.length
    simp; omega
  · cases hi
    obtain ⟨a, xs, rfl, n1, h1, z1, q1⟩ := r1.tuple_inv
    obtain ⟨b, ys, rfl, n2, h2, z2, q2⟩ := r2.tuple_inv
    refine ⟨a, b, xs, ys, rfl, .inr ⟨.of h1, .of h2, q _ H2 (.zipT n1 h1 q1 n2 h2 q2) ?_ .refl o2.rel⟩⟩
    have := q1.length
    simp; omega
  · cases hi
theorem si_zip3 {a b c : E S} {ea eb ec : Expr} {elts : List Expr} {kk : Nat} {tp pn pos : Pos} (hg : Gl X "zip") (hm : X.mg "zip" = none) (ha : SE X k a ea) (hb : SE X k b eb) (hc : SE X k c ec) (hk : okE ea = true) (hk2 : okE eb = true) (hk3 : okE ec = true) : SI X k (.Tuple elts kk tp) (.zip3 a b c) (.Call (.Name "zip" pn) [ea, eb, ec] [] pos) := fun T ρ st σ H Q W n o t p => by
  simp only [evIt] at p
  refine (pi_zip3 hg hm (pa_cons pe_w (pa_cons pe_w (pa_cons pe_w pa_nil (star_cons hk3 _ _)) (star_cons hk2 _ _)) (star_cons hk _ _)) (star_cons hk _ _) (back_ok _ _ (by simp [hk2, hk3]))).w ?_
  refine ha.thenI n.left o t p fun d st1 v H1 r1 e1 o1 p1 => ?_
  refine hb.thenI (n.right.left.next (o.extT e1)) o1 t p1 fun d2 st2 v2 H2 r2 e2 o2 p2 => ?_
  refine hc.thenI (n.right.right.next ((o.extT e1).trans (o1.extT e2))) o2 t p2 fun d3 st3 v3 H3 r3 e3 o3 p3 => ?_
  obtain ⟨items, hi, q⟩ := p3.there fun n l h => by unfold zip3D at h; split at h <;> cases h
  have r1 := (r1.ext (o1.extT e2)).ext (o2.extT e3)
  have r2 := r2.ext (o2.extT e3)
  unfold zip3D at hi
  split at hi
  · cases hi
    obtain ⟨a, xs, rfl, n1, h1, z1, q1⟩ := r1.list_inv
    obtain ⟨b, ys, rfl, n2, h2, z2, q2⟩ := r2.list_inv
    obtain ⟨c, zs, rfl, n3, h3, z3, q3⟩ := r3.list_inv
    refine ⟨a, b, c, xs, ys, zs, rfl, .of h1, .of h2, .of h3, q _ H3 (.zip3 n1 h1 q1 n2 h2 q2 n3 h3 q3) ?_ .refl o3.rel⟩
    have := q1.length
    simp; omega
  · cases hi
theorem si_enum {a : E S} {ea : Expr} {elts : List Expr} {kk : Nat} {tp pn pos : Pos} (hg : Gl X "enumerate") (hm : X.mg "enumerate" = none) (ha : SE X k a ea) (hk : okE ea = true) : SI X k (.Tuple elts kk tp) (.enum a) (.Call (.Name "enumerate" pn) [ea] [] pos) := fun T ρ st σ H Q W n o t p => by
  simp only [evIt] at p
  refine (pi_enum hg hm (pa_cons pe_w pa_nil (star_cons hk _ _)) (star_cons hk _ _)).w ?_
  refine ha.thenI n o t p fun d st1 v H1 r1 e1 o1 p1 => ?_
  obtain ⟨items, hi, q⟩ := p1.there fun n l h => by unfold enumD at h; split at h <;> cases h
  unfold enumD at hi
  split at hi
  · cases hi
    obtain ⟨a, xs, rfl, n1, h1, z1, q1⟩ := r1.list_inv
    refine ⟨a, xs, rfl, .of h1, q _ H1 (.enum n1 h1 q1) ?_ .refl o1.rel⟩
    have := q1.length
    simp; omega
  · cases hi

theorem si_enumZip {a b : E S} {ea eb : Expr} {elts : List Expr} {kk : Nat} {tp pn p2 pos pos2 : Pos} (hg : Gl X "enumerate") (hm : X.mg "enumerate" = none) (hg2 : Gl X "zip") (hm2 : X.mg "zip" = none) (ha : SE X k a ea) (hb : SE X k b eb) (hk : okE ea = true) (hk2 : okE eb = true) :
    SI X k (.Tuple elts kk tp) (.enumZip a b) (.Call (.Name "enumerate" pn) [.Call (.Name "zip" p2) [ea, eb] [] pos2] [] pos) := fun T ρ st σ H Q W n o t p => by
  simp only [evIt] at p
  refine (pi_ez hg hm hg2 hm2 (pa_cons pe_w (pa_cons pe_w pa_nil (star_cons hk2 _ _)) (star_cons hk _ _)) (star_cons hk _ _) (back_ok _ _ (by simp [hk2]))).w ?_
  refine ha.thenI n.left o t p fun d st1 v H1 r1 e1 o1 p1 => ?_
  refine hb.thenI (n.right.next (o.extT e1)) o1 t p1 fun d2 st2 v2 H2 r2 e2 o2 p2 => ?_
  obtain ⟨items, hi, q⟩ := p2.there fun n l h => by unfold enumZipD at h; split at h <;> cases h
  have r1 := r1.ext (o1.extT e2)
  unfold enumZipD at hi
  split at hi
  · cases hi
    obtain ⟨a, xs, rfl, n1, h1, z1, q1⟩ := r1.list_inv
    obtain ⟨b, ys, rfl, n2, h2, z2, q2⟩ := r2.list_inv
    refine ⟨a, b, xs, ys, rfl, .of h1, .of h2, q _ H2 (.ez n1 h1 q1 n2 h2 q2) ?_ .refl o2.rel⟩
    have := q1.length
    simp; omega
  · cases hi
/-! ### list comprehensions -/
theorem nx_nx {α : Type} {m : M S α} {s : S} {n : Str} {l : List PyData} (h : nx m s = .exc n l) : False := by
  unfold nx at h
  cases q : m s with
  | ok b => rw [q] at h; cases h
  | exc x l => rw [q] at h; cases h
  | bad => rw [q] at h; cases h
theorem lcGo_nx {f : PyData → M S (Option PyData)} (hf : ∀ x s n l, f x s ≠ .exc n l) : ∀ {xs : List PyData} {s : S} {n : Str} {l : List PyData}, lcGo f xs s ≠ .exc n l
  | [], s, n, l, h => nomatch h
  | x :: xs, s, n, l, h => by
    simp only [lcGo] at h
    unfold bnd at h
    rcases bind_nx h with ⟨⟨o, s1⟩, h1, h2⟩ | h
    · rcases bind_nx h2 with ⟨⟨r, s2⟩, h3, h4⟩ | h2
      · cases h4
      · exact lcGo_nx hf h2
    · exact hf _ _ _ _ h
theorem lcGo_cons {f : PyData → M S (Option PyData)} {x : PyData} {xs ys : List PyData} {s s' : S} (h : lcGo f (x :: xs) s = .ok (ys, s')) : ∃ o s1 r, f x s = .ok (o, s1) ∧ lcGo f xs s1 = .ok (r, s') ∧ ys = (match o with | some y => y :: r | none => r) := by
  simp only [lcGo] at h
  unfold bnd at h
  obtain ⟨⟨o, s1⟩, h1, h2⟩ := bind_ok h
  obtain ⟨⟨r, s2⟩, h3, h4⟩ := bind_ok h2
  cases h4
  exact ⟨o, s1, r, h1, h3, rfl⟩
/-- the block's context, whatever it is -/
def BlkE (X : Cx) (scope : Scope) (P : Cx → Prop) : Prop := ∀ (s : Shared) (H : Hp) (C : Addr) (cl : List (Str × Addr)) (fp : List Addr), P (X.blk s H scope (compEnvC scope cl C X.env) fp)
/-- the parts, whatever the block -/
def lcG (X : Cx) (scope : Scope) (etg : Expr) : TG := fun v σ H Q => BlkE X scope fun X' => wG X' etg v σ H Q
def lcT (X : Cx) (scope : Scope) (ifs : List Expr) : TT := fun σ H Q => BlkE X scope fun X' => ∃ u : TT, PTs X' ifs u ∧ u σ H Q
def lcE (X : Cx) (scope : Scope) (eelt : Expr) : TE := fun σ H Q => BlkE X scope fun X' => wE X' eelt σ H Q
theorem lcG_ok {etg : Expr} {scope : Scope} : BlkE X scope fun X' => PG X' etg (lcG X scope etg) := fun s H C cl fp => ⟨fun pins s' σ H' v u Q I r h => h s H C cl fp pins s' u I r⟩
theorem lcT_ok {ifs : List Expr} {scope : Scope} : BlkE X scope fun X' => PTs X' ifs (lcT X scope ifs) := fun s H C cl fp => ⟨fun pins s' σ H' Q I h => by
    obtain ⟨u, hu, q⟩ := h s H C cl fp
    exact hu.run pins s' σ H' Q I q⟩
theorem lcE_ok {eelt : Expr} {scope : Scope} : BlkE X scope fun X' => PE X' eelt (lcE X scope eelt) := fun s H C cl fp => ⟨fun pins s' σ H' Q I h => h s H C cl fp pins s' I⟩
theorem lc_read {elt c : E S} {tgt : Tg} {it : Mir.It S} {own : List (Str × Nat)} {eelt etg eiter : Expr} {ifs : List Expr} {scope : Scope} (nd : X.N.Nodup) (hc : X.calm = true) (hi : SI X k etg it eiter) (ok : BlkOk X.N X.env.scope scope own) (hf : okE eiter = true)
    (hown : ∀ i ∈ tgs tgt, i ∈ own.map (·.2)) (hds : ∀ p, k.slot = some p → p.1 ∉ own.map (·.2))
    (ht : BlkE X scope fun X' => TgOk X' tgt etg) (hcc : BlkE X scope fun X' => (ifs = [] ∧ c = .bl true) ∨ ∃ e, ifs = [e] ∧ ST X' k c e) (he : BlkE X scope fun X' => SE X' k elt eelt)
    {T : Addr → Prop} {ρ : Env} {st : S} {σ : L2.St} {H : Hp} {Q : VK} {W : WX} (n : EnvR X k T (fv (.lc elt tgt it c own : E S)) ρ σ H) (o : Ok X k T st H) (t : Takes X W) (p : PostF X k T σ H (ev (.lc elt tgt it c own) ρ st) Q W) :
    tLc (wI X etg eiter) (lcG X scope etg) (lcT X scope ifs) (lcE X scope eelt) (own.map (·.2)) σ H Q := by
  have n1 : EnvR X k T (fvI it) ρ σ H := n.sub fun i h => by simp only [fv, List.mem_append]; exact .inl h
  have n2 : EnvR X k T (fv elt ++ fv c) ρ σ H := n.sub fun i h => by simp only [fv, List.mem_append] at h ⊢; exact .inr h
  generalize hff : (fun x => nx (bnd (lft (asg tgt x (wipeE ρ (own.map (·.2))))) fun ρ' => bnd (ev c ρ') fun t => if truthy t = true then bnd (ev elt ρ') fun y => ret (some y) else ret none)) = f at *
  have p : PostF X k T σ H (bnd (evIt it ρ) (fun xs => bnd (lcGo f xs) fun ys => ret (.list ys)) st) Q W := by
    rw [← hff]; exact p
  refine hi T ρ st σ H _ W n1 o t ?_
  unfold bnd at p
  unfold PostI
  cases hr : evIt it ρ st with
  | exc x l => rw [hr] at p; exact p
  | bad => rw [hr] at p; exact p
  | ok a =>
    obtain ⟨items, st1⟩ := a
    rw [hr] at p
    refine fun J H1 jw hlen e1 rel1 D hD => ?_
    have p : PostF X k T σ H ((lcGo f items st1).bind fun q => R.ok (PyData.list q.1, q.2)) Q W := p
    have hfnx : ∀ x s n l, f x s ≠ .exc n l := fun x s n l h => by rw [← hff] at h; exact nx_nx h
    cases hg : lcGo f items st1 with
    | exc x l => exact (lcGo_nx hfnx hg).elim
    | bad => rw [hg] at p; exact p.elim
    | ok b =>
      obtain ⟨ys, stf⟩ := b
      rw [hg] at p
      have o1 : Ok X k T st1 H1 := o.next e1 rel1
      have hTD : ¬ T D := o1.none hD
      -- the new list is not to be met
      let T' : Addr → Prop := fun a => T a ∨ a = D
      have mv : ∀ H', (∀ a u, ¬ k.loc a → a ≠ D → H1 a = some u → H' a = some u) → Mv T T' H1 H' := fun H' kp =>
        ⟨fun a u nt ha z => z.elim nt fun z => (by subst z; rw [hD] at ha; cases ha), fun a u nt ha => kp a u (fun z => nt (o.loc a z)) (fun z => by subst z; rw [hD] at ha; cases ha) ha⟩
      refine ⟨fun i m H' => m = items.length - i ∧ i ≤ items.length ∧ ∃ sti acc ds rest, H' D = some (.lst acc) ∧ RepL T' H' ds acc ∧ ds.length ≤ i ∧ (∀ a u, ¬ k.loc a → a ≠ D → H1 a = some u → H' a = some u) ∧ k.rel sti H' ∧ lcGo f (items.drop i) sti = .ok (rest, stf) ∧ ds ++ rest = ys,
        ⟨items.length, rfl, Nat.zero_le _, st1, [], [], ys, upd_same, .nil, Nat.le_refl _, fun a u _ hn ha => by rw [upd_ne hn]; exact ha, ?_, by simpa using hg, rfl⟩, ?_⟩
      · exact o1.relNo (Ext.laid hD)
      rintro i m H' ⟨rfl, hile, sti, acc, ds, rest, hDl, hds', hdl, kp, reli, hgo, hys⟩
      have m' := mv H' kp
      have oT : Ok X k T' sti H' := by
        refine ⟨fun a h => ?_, fun a h => .inl (o.loc a h), reli⟩
        by_cases ha : a = D
        · subst ha; exact ⟨_, hDl, trivial⟩
        · by_cases hl : k.loc a
          · obtain ⟨xs, q⟩ := k.there _ _ a reli hl
            exact ⟨_, q, trivial⟩
          · rcases h with h | h
            · obtain ⟨u, hu, mu⟩ := o1.dom a h
              exact ⟨u, kp a u hl ha hu, mu⟩
            · exact absurd h ha
      obtain ⟨jgo, jst⟩ := jw i H' T' m' oT.dom'
      by_cases hlt : i < items.length
      · obtain ⟨jgo, jy⟩ := jgo hlt
        refine .inr ⟨jgo, fun H'' => i + 1 ≤ items.length ∧ ∃ sti acc ds rest, H'' D = some (.lst acc) ∧ RepL T' H'' ds acc ∧ ds.length ≤ i + 1 ∧ (∀ a u, ¬ k.loc a → a ≠ D → H1 a = some u → H'' a = some u) ∧ k.rel sti H'' ∧ lcGo f (items.drop (i + 1)) sti = .ok (rest, stf) ∧ ds ++ rest = ys,
          fun H'' h => ⟨items.length - (i + 1), by omega, rfl, h⟩, fun x H2 hy => ?_⟩
        obtain ⟨⟨d, hd, rd⟩, e2⟩ := jy x H2 hy
        have hdrop : items.drop i = d :: items.drop (i + 1) := by
          rw [List.drop_eq_getElem_cons hlt]
          rw [List.getElem?_eq_getElem hlt] at hd
          cases hd; rfl
        rw [hdrop] at hgo
        obtain ⟨oy, st2, rest2, hfx, hgo2, hrest⟩ := lcGo_cons hgo
        rw [← hff] at hfx
        have hfx := nx_ok hfx
        unfold bnd at hfx
        obtain ⟨⟨ρ', s3⟩, ha1, hfx⟩ := bind_ok hfx
        unfold lft at ha1
        obtain ⟨ρ'', ha2, ha3⟩ := bind_ok ha1
        cases ha3
        have hD2 : H2 D = some (.lst acc) := e2 _ _ id hDl
        have e2k : Ext k.loc H' H2 := .of_no e2
        have o2 : Ok X k T' sti H2 := oT.next e2k (oT.relNo e2)
        have kp2 : ∀ a u, ¬ k.loc a → a ≠ D → H1 a = some u → H2 a = some u := fun a u h1 h2 h3 => e2 _ _ id (kp a u h1 h2 h3)
        have n3 : EnvR X k T' (fv elt ++ fv c) (wipeE ρ (own.map (·.2))) (wipe σ (own.map (·.2))) H2 := ((n2.next (o.extT e1)).mv (mv H2 kp2)).wipe hds
        intro s H C cl fp
        refine sg (T := T') nd hc (ht s H C cl fp) ha2 rd fun es vs rv hl hρ => ?_
        refine ⟨by rw [wipe_setAll hown, wipe_wipe], ?_⟩
        have n4 : EnvR X k T' (fv elt ++ fv c) ρ' (setAllS (tgs tgt) vs (wipe σ (own.map (·.2)))) H2 := by
          rw [hρ]
          exact (EnvR.setAll (fun p hp j hj z => hds p hp (by rw [z]; exact hown j hj)) n3 rv hl).sub fun i hi => List.mem_append_right _ hi
        obtain ⟨⟨tv, st3⟩, hc1, hfx⟩ := bind_ok hfx
        have hfx : (if truthy tv = true then (bnd (ev elt ρ') fun y => ret (some y)) else ret none) st3 = R.ok (oy, st2) := hfx
        -- the test
        intro s' H0' C' cl' fp'
        have fin : ∀ H3, Ext k.loc H2 H3 → k.rel st3 H3 → (if truthy tv = true then lcE X scope eelt (setAllS (tgs tgt) vs (wipe σ (own.map (·.2)))) H3 fun y H4 => ∃ acc, H4 D = some (.lst acc) ∧ acc.length < sizeLine ∧ (i + 1 ≤ items.length ∧ ∃ sti acc2 ds rest, (upd H4 D (.lst (acc ++ [y]))) D = some (.lst acc2) ∧ RepL T' (upd H4 D (.lst (acc ++ [y]))) ds acc2 ∧ ds.length ≤ i + 1 ∧ (∀ a u, ¬ k.loc a → a ≠ D → H1 a = some u → (upd H4 D (.lst (acc ++ [y]))) a = some u) ∧ k.rel sti (upd H4 D (.lst (acc ++ [y]))) ∧ lcGo f (items.drop (i + 1)) sti = .ok (rest, stf) ∧ ds ++ rest = ys)
            else (i + 1 ≤ items.length ∧ ∃ sti acc ds rest, H3 D = some (.lst acc) ∧ RepL T' H3 ds acc ∧ ds.length ≤ i + 1 ∧ (∀ a u, ¬ k.loc a → a ≠ D → H1 a = some u → H3 a = some u) ∧ k.rel sti H3 ∧ lcGo f (items.drop (i + 1)) sti = .ok (rest, stf) ∧ ds ++ rest = ys)) := fun H3 e3 rel3 => by
          have hkD : ¬ k.loc D := fun z => hTD (o.loc D z)
          have hD3 : H3 D = some (.lst acc) := e3 _ _ hkD hD2
          have kp3 : ∀ a u, ¬ k.loc a → a ≠ D → H1 a = some u → H3 a = some u := fun a u h1 h2 h3 => e3 _ _ h1 (kp2 a u h1 h2 h3)
          have rds : RepL T' H3 ds acc := (hds'.ext (.of_no e2)).ext (o2.extT e3)
          by_cases htv : truthy tv = true
          · rw [if_pos htv] at hfx ⊢
            intro s H C cl fp
            have o3 : Ok X k T' st3 H3 := o2.next e3 rel3
            unfold bnd at hfx
            obtain ⟨⟨yd, st4⟩, hy1, hy2⟩ := bind_ok hfx
            cases hy2
            refine he s H C cl fp T' ρ' st3 _ H3 _ (fun _ _ _ _ => False) ((n4.left.next (o2.extT e3)).cx) o3.cx takes0 ?_
            unfold PostE
            rw [hy1]
            refine fun v H4 rv4 e4 rel4 => ⟨acc, e4 _ _ hkD hD3, ?_, hlt, st4, acc ++ [v], ds ++ [yd], rest2, upd_same, ?_, by simp; omega, fun a u h1 h2 h3 => ?_, ?_, hgo2, ?_⟩
            · have := hds'.length
              omega
            · have hTD' : T' D := .inr rfl
              exact ((rds.ext (o3.extT e4)).append (.cons rv4 .nil)).ext (Ext.wr hTD')
            · rw [upd_ne h2]; exact e4 _ _ h1 (kp3 a u h1 h2 h3)
            · exact k.keep _ _ _ rel4 fun a ha => upd_ne fun z => hkD (by rw [← z]; exact ha)
            · rw [List.append_assoc, ← hys, hrest]; rfl
          · rw [if_neg htv] at hfx ⊢
            cases hfx
            exact ⟨hlt, _, acc, ds, rest2, hD3, rds, by omega, kp3, rel3, hgo2, by rw [← hys, hrest]⟩
        rcases hcc s' H0' C' cl' fp' with ⟨rfl, rfl⟩ | ⟨ec, rfl, hst⟩
        · refine ⟨tYes, pts_nil, ?_⟩
          cases hc1
          exact fin H2 .refl o2.rel
        · refine ⟨wT _ ec, pts_one pt_w, ?_⟩
          refine hst T' ρ' sti _ H2 _ (fun _ _ _ _ => False) n4.right.cx o2.cx takes0 ?_
          unfold PostT
          rw [hc1]
          intro H3 e3 rel3
          have := fin H3 e3 rel3
          cases htv : truthy tv <;> simp only [htv] at this ⊢ <;> exact this
      · have hi' : i = items.length := by omega
        subst hi'
        refine .inl ⟨jst (Nat.le_refl _), ?_⟩
        rw [List.drop_length] at hgo
        cases hgo
        rw [List.append_nil] at hys
        subst hys
        have hD0 : H D = none := by
          cases q : H D with
          | none => rfl
          | some u =>
            have := e1 D u (fun z => hTD (o.loc D z)) q
            rw [hD] at this; cases this
        refine p D _ hD0 hTD ⟨_, hDl, by rw [← hds'.length]; omega, hds'⟩ (fun a u h1 h2 => ?_) reli
        have hne : a ≠ D := fun z => by
          have := e1 a u h1 h2
          rw [z, hD] at this; cases this
        exact kp a u h1 hne (e1 a u h1 h2)
theorem se_lc {elt c : E S} {tgt : Tg} {it : Mir.It S} {own : List (Str × Nat)} {eelt etg eiter : Expr} {ifs : List Expr} {scope : Scope} (nd : X.N.Nodup) (hc : X.calm = true) (hi : SI X k etg it eiter) (ok : BlkOk X.N X.env.scope scope own) (hf : okE eiter = true)
    (hown : ∀ i ∈ tgs tgt, i ∈ own.map (·.2)) (hds : ∀ p, k.slot = some p → p.1 ∉ own.map (·.2))
    (ht : BlkE X scope fun X' => TgOk X' tgt etg) (hcc : BlkE X scope fun X' => (ifs = [] ∧ c = .bl true) ∨ ∃ e, ifs = [e] ∧ ST X' k c e) (he : BlkE X scope fun X' => SE X' k elt eelt) :
    SE X k (.lc elt tgt it c own) (.ListComp eelt [⟨etg, eiter, ifs, 0⟩] scope pos) := fun T ρ st σ H Q W n o t p =>
  (pe_lc (g := lcG X scope etg) (tt := lcT X scope ifs) (te := lcE X scope eelt) hc nd pi_w ok lcG_ok lcT_ok lcE_ok (fold_ok hf _)).w (lc_read nd hc hi ok hf hown hds ht hcc he n o t p.f)
/-! ### dict comprehensions -/
theorem dcGo_nx {f : PyData → M S (Option (PyData × PyData))} (hf : ∀ x s n l, f x s ≠ .exc n l) : ∀ {xs : List PyData} {kvs : List (PyData × PyData)} {s : S} {n : Str} {l : List PyData}, dcGo f xs kvs s ≠ .exc n l
  | [], kvs, s, n, l, h => nomatch h
  | x :: xs, kvs, s, n, l, h => by
    simp only [dcGo] at h
    unfold bnd at h
    rcases bind_nx h with ⟨⟨o, s1⟩, h1, h2⟩ | h
    · cases o with
      | none => exact dcGo_nx hf h2
      | some p =>
        obtain ⟨k, y⟩ := p
        simp only at h2
        split at h2
        · exact dcGo_nx hf h2
        · cases h2
    · exact hf _ _ _ _ h
theorem dcGo_cons {f : PyData → M S (Option (PyData × PyData))} {x : PyData} {xs : List PyData} {kvs r : List (PyData × PyData)} {s s' : S} (h : dcGo f (x :: xs) kvs s = .ok (r, s')) :
    ∃ o s1, f x s = .ok (o, s1) ∧ ((o = none ∧ dcGo f xs kvs s1 = .ok (r, s')) ∨ ∃ k y, o = some (k, y) ∧ flatK k = true ∧ kvs.length < sizeLine ∧ dcGo f xs (putD kvs k y) s1 = .ok (r, s')) := by
  simp only [dcGo] at h
  unfold bnd at h
  obtain ⟨⟨o, s1⟩, h1, h2⟩ := bind_ok h
  refine ⟨o, s1, h1, ?_⟩
  cases o with
  | none => exact .inl ⟨rfl, h2⟩
  | some p =>
    obtain ⟨k, y⟩ := p
    simp only at h2
    split at h2
    · rename_i hz
      exact .inr ⟨k, y, rfl, hz.1, hz.2, h2⟩
    · cases h2
theorem flat_rep {T : Addr → Prop} {H : Hp} {d : PyData} {v : V} (h : flatK d = true) (r : Rep T H d v) : ∃ kk : Key, d = kD kk ∧ v = kV kk := by
  obtain ⟨ks, e1, e2⟩ := keyD_all (ds := [d]) (by simp [h]) (RepL.cons r .nil)
  cases ks with
  | nil => cases e1
  | cons kk t =>
    cases t with
    | nil => exact ⟨kk, by simpa using e1, by simpa using e2⟩
    | cons a b => simp at e1
theorem dc_read {ke ve c : E S} {tgt : Tg} {it : Mir.It S} {own : List (Str × Nat)} {eke eve etg eiter : Expr} {ifs : List Expr} {scope : Scope} (nd : X.N.Nodup) (hc : X.calm = true) (hi : SI X k etg it eiter) (ok : BlkOk X.N X.env.scope scope own) (hf : okE eiter = true)
    (hown : ∀ i ∈ tgs tgt, i ∈ own.map (·.2)) (hds : ∀ p, k.slot = some p → p.1 ∉ own.map (·.2))
    (ht : BlkE X scope fun X' => TgOk X' tgt etg) (hcc : BlkE X scope fun X' => (ifs = [] ∧ c = .bl true) ∨ ∃ e, ifs = [e] ∧ ST X' k c e) (hke : BlkE X scope fun X' => SE X' k ke eke) (hve : BlkE X scope fun X' => SE X' k ve eve)
    {T : Addr → Prop} {ρ : Env} {st : S} {σ : L2.St} {H : Hp} {Q : VK} {W : WX} (n : EnvR X k T (fv (.dc ke ve tgt it c own : E S)) ρ σ H) (o : Ok X k T st H) (t : Takes X W) (p : PostF X k T σ H (ev (.dc ke ve tgt it c own) ρ st) Q W) :
    tDc (wI X etg eiter) (lcG X scope etg) (lcT X scope ifs) (lcE X scope eke) (lcE X scope eve) (own.map (·.2)) σ H Q := by
  have n1 : EnvR X k T (fvI it) ρ σ H := n.sub fun i h => by simp only [fv, List.mem_append]; exact .inl h
  have n2 : EnvR X k T (fv ke ++ (fv ve ++ fv c)) ρ σ H := n.sub fun i h => by simp only [fv, List.mem_append] at h ⊢; exact .inr h
  generalize hff : (fun x => nx (bnd (lft (asg tgt x (wipeE ρ (own.map (·.2))))) fun ρ' => bnd (ev c ρ') fun t => if truthy t = true then bnd (ev ke ρ') fun k => bnd (ev ve ρ') fun y => ret (some (k, y)) else ret none)) = f at *
  have p : PostF X k T σ H (bnd (evIt it ρ) (fun xs => bnd (dcGo f xs []) fun ys => ret (.dict ys)) st) Q W := by
    rw [← hff]; exact p
  refine hi T ρ st σ H _ W n1 o t ?_
  unfold bnd at p
  unfold PostI
  cases hr : evIt it ρ st with
  | exc x l => rw [hr] at p; exact p
  | bad => rw [hr] at p; exact p
  | ok a =>
    obtain ⟨items, st1⟩ := a
    rw [hr] at p
    refine fun J H1 jw hlen e1 rel1 D hD => ?_
    have p : PostF X k T σ H ((dcGo f items [] st1).bind fun q => R.ok (PyData.dict q.1, q.2)) Q W := p
    have hfnx : ∀ x s n l, f x s ≠ .exc n l := fun x s n l h => by rw [← hff] at h; exact nx_nx h
    cases hg : dcGo f items [] st1 with
    | exc x l => exact (dcGo_nx hfnx hg).elim
    | bad => rw [hg] at p; exact p.elim
    | ok b =>
      obtain ⟨ys, stf⟩ := b
      rw [hg] at p
      have o1 : Ok X k T st1 H1 := o.next e1 rel1
      have hTD : ¬ T D := o1.none hD
      let T' : Addr → Prop := fun a => T a ∨ a = D
      have mv : ∀ H', (∀ a u, ¬ k.loc a → a ≠ D → H1 a = some u → H' a = some u) → Mv T T' H1 H' := fun H' kp =>
        ⟨fun a u nt ha z => z.elim nt fun z => (by subst z; rw [hD] at ha; cases ha), fun a u nt ha => kp a u (fun z => nt (o.loc a z)) (fun z => by subst z; rw [hD] at ha; cases ha) ha⟩
      refine ⟨fun i m H' => m = items.length - i ∧ i ≤ items.length ∧ ∃ sti acc ds, H' D = some (.dK acc) ∧ RepK T' H' ds acc ∧ (∀ a u, ¬ k.loc a → a ≠ D → H1 a = some u → H' a = some u) ∧ k.rel sti H' ∧ dcGo f (items.drop i) ds sti = .ok (ys, stf),
        ⟨items.length, rfl, Nat.zero_le _, st1, [], [], upd_same, by simp [RepK], fun a u _ hn ha => by rw [upd_ne hn]; exact ha, ?_, by simpa using hg⟩, ?_⟩
      · exact o1.relNo (Ext.laid hD)
      rintro i m H' ⟨rfl, hile, sti, acc, ds, hDl, hds', kp, reli, hgo⟩
      have m' := mv H' kp
      have oT : Ok X k T' sti H' := by
        refine ⟨fun a h => ?_, fun a h => .inl (o.loc a h), reli⟩
        by_cases ha : a = D
        · subst ha; exact ⟨_, hDl, trivial⟩
        · by_cases hl : k.loc a
          · obtain ⟨xs, q⟩ := k.there _ _ a reli hl
            exact ⟨_, q, trivial⟩
          · rcases h with h | h
            · obtain ⟨u, hu, mu⟩ := o1.dom a h
              exact ⟨u, kp a u hl ha hu, mu⟩
            · exact absurd h ha
      obtain ⟨jgo, jst⟩ := jw i H' T' m' oT.dom'
      by_cases hlt : i < items.length
      · obtain ⟨jgo, jy⟩ := jgo hlt
        refine .inr ⟨jgo, fun H'' => i + 1 ≤ items.length ∧ ∃ sti acc ds, H'' D = some (.dK acc) ∧ RepK T' H'' ds acc ∧ (∀ a u, ¬ k.loc a → a ≠ D → H1 a = some u → H'' a = some u) ∧ k.rel sti H'' ∧ dcGo f (items.drop (i + 1)) ds sti = .ok (ys, stf),
          fun H'' h => ⟨items.length - (i + 1), by omega, rfl, h⟩, fun x H2 hy => ?_⟩
        obtain ⟨⟨d, hd, rd⟩, e2⟩ := jy x H2 hy
        have hdrop : items.drop i = d :: items.drop (i + 1) := by
          rw [List.drop_eq_getElem_cons hlt]
          rw [List.getElem?_eq_getElem hlt] at hd
          cases hd; rfl
        rw [hdrop] at hgo
        obtain ⟨oy, st2, hfx, hgo2⟩ := dcGo_cons hgo
        rw [← hff] at hfx
        have hfx := nx_ok hfx
        unfold bnd at hfx
        obtain ⟨⟨ρ', s3⟩, ha1, hfx⟩ := bind_ok hfx
        unfold lft at ha1
        obtain ⟨ρ'', ha2, ha3⟩ := bind_ok ha1
        cases ha3
        have hD2 : H2 D = some (.dK acc) := e2 _ _ id hDl
        have e2k : Ext k.loc H' H2 := .of_no e2
        have o2 : Ok X k T' sti H2 := oT.next e2k (oT.relNo e2)
        have kp2 : ∀ a u, ¬ k.loc a → a ≠ D → H1 a = some u → H2 a = some u := fun a u h1 h2 h3 => e2 _ _ id (kp a u h1 h2 h3)
        have n3 : EnvR X k T' (fv ke ++ (fv ve ++ fv c)) (wipeE ρ (own.map (·.2))) (wipe σ (own.map (·.2))) H2 := ((n2.next (o.extT e1)).mv (mv H2 kp2)).wipe hds
        intro s H C cl fp
        refine sg (T := T') nd hc (ht s H C cl fp) ha2 rd fun es vs rv hl hρ => ?_
        refine ⟨by rw [wipe_setAll hown, wipe_wipe], ?_⟩
        have n4 : EnvR X k T' (fv ke ++ (fv ve ++ fv c)) ρ' (setAllS (tgs tgt) vs (wipe σ (own.map (·.2)))) H2 := by
          rw [hρ]
          exact (EnvR.setAll (fun p hp j hj z => hds p hp (by rw [z]; exact hown j hj)) n3 rv hl).sub fun i hi => List.mem_append_right _ hi
        obtain ⟨⟨tv, st3⟩, hc1, hfx⟩ := bind_ok hfx
        have hfx : (if truthy tv = true then (bnd (ev ke ρ') fun k => bnd (ev ve ρ') fun y => ret (some (k, y))) else ret none) st3 = R.ok (oy, st2) := hfx
        intro s' H0' C' cl' fp'
        have hkD : ¬ k.loc D := fun z => hTD (o.loc D z)
        have fin : ∀ H3, Ext k.loc H2 H3 → k.rel st3 H3 → (if truthy tv = true then lcE X scope eke (setAllS (tgs tgt) vs (wipe σ (own.map (·.2)))) H3 fun y H4 => lcE X scope eve (setAllS (tgs tgt) vs (wipe σ (own.map (·.2)))) H4 fun z H5 => ∃ kvs kk, y = kV kk ∧ H5 D = some (.dK kvs) ∧ kvs.length < sizeLine ∧
            (i + 1 ≤ items.length ∧ ∃ sti acc ds, (upd H5 D (.dK (putK kvs kk z))) D = some (.dK acc) ∧ RepK T' (upd H5 D (.dK (putK kvs kk z))) ds acc ∧ (∀ a u, ¬ k.loc a → a ≠ D → H1 a = some u → (upd H5 D (.dK (putK kvs kk z))) a = some u) ∧ k.rel sti (upd H5 D (.dK (putK kvs kk z))) ∧ dcGo f (items.drop (i + 1)) ds sti = .ok (ys, stf))
            else (i + 1 ≤ items.length ∧ ∃ sti acc ds, H3 D = some (.dK acc) ∧ RepK T' H3 ds acc ∧ (∀ a u, ¬ k.loc a → a ≠ D → H1 a = some u → H3 a = some u) ∧ k.rel sti H3 ∧ dcGo f (items.drop (i + 1)) ds sti = .ok (ys, stf))) := fun H3 e3 rel3 => by
          have hD3 : H3 D = some (.dK acc) := e3 _ _ hkD hD2
          have kp3 : ∀ a u, ¬ k.loc a → a ≠ D → H1 a = some u → H3 a = some u := fun a u h1 h2 h3 => e3 _ _ h1 (kp2 a u h1 h2 h3)
          have rds : RepK T' H3 ds acc := RepK.mv (.of_ext (o2.extT e3)) _ _ (RepK.mv (.of_ext (Ext.mono e2 fun a h => h.elim)) _ _ hds')
          by_cases htv : truthy tv = true
          · rw [if_pos htv] at hfx ⊢
            intro s H C cl fp
            have o3 : Ok X k T' st3 H3 := o2.next e3 rel3
            unfold bnd at hfx
            obtain ⟨⟨kd, st4⟩, hy1, hfx⟩ := bind_ok hfx
            obtain ⟨⟨yd, st5⟩, hy2, hy3⟩ := bind_ok hfx
            cases hy3
            rcases hgo2 with ⟨h0, _⟩ | ⟨k0, y0, h0, hfl, hsz, hgo2⟩
            · cases h0
            cases h0
            refine hke s H C cl fp T' ρ' st3 _ H3 _ (fun _ _ _ _ => False) ((n4.left.next (o2.extT e3)).cx) o3.cx takes0 ?_
            unfold PostE
            rw [hy1]
            intro v H4 rv4 e4 rel4
            intro s H C cl fp
            have o4 : Ok X k T' st4 H4 := o3.next e4 rel4
            obtain ⟨kk, rfl, rfl⟩ := flat_rep hfl rv4
            refine hve s H C cl fp T' ρ' st4 _ H4 _ (fun _ _ _ _ => False) ((n4.right.left.next ((o2.extT e3).trans (o3.extT e4))).cx) o4.cx takes0 ?_
            unfold PostE
            rw [hy2]
            refine fun z H5 rv5 e5 rel5 => ⟨acc, kk, rfl, e5 _ _ hkD (e4 _ _ hkD hD3), by rw [← hds'.length]; exact hsz, hlt, st5, putK acc kk z, putD ds (kD kk) yd, upd_same, ?_, fun a u h1 h2 h3 => ?_, ?_, hgo2⟩
            · have hTD' : T' D := .inr rfl
              have r5 : RepK T' H5 ds acc := RepK.mv (.of_ext (o4.extT e5)) _ _ (RepK.mv (.of_ext (o3.extT e4)) _ _ rds)
              exact RepK.mv (.of_ext (Ext.wr hTD')) _ _ (r5.put rv5)
            · rw [upd_ne h2]; exact e5 _ _ h1 (e4 _ _ h1 (kp3 a u h1 h2 h3))
            · exact k.keep _ _ _ rel5 fun a ha => upd_ne fun z => hkD (by rw [← z]; exact ha)
          · rw [if_neg htv] at hfx ⊢
            cases hfx
            rcases hgo2 with ⟨_, hgo2⟩ | ⟨k0, y0, h0, _⟩
            · exact ⟨hlt, _, acc, ds, hD3, rds, kp3, rel3, hgo2⟩
            · cases h0
        rcases hcc s' H0' C' cl' fp' with ⟨rfl, rfl⟩ | ⟨ec, rfl, hst⟩
        · refine ⟨tYes, pts_nil, ?_⟩
          cases hc1
          exact fin H2 .refl o2.rel
        · refine ⟨wT _ ec, pts_one pt_w, ?_⟩
          refine hst T' ρ' sti _ H2 _ (fun _ _ _ _ => False) n4.right.right.cx o2.cx takes0 ?_
          unfold PostT
          rw [hc1]
          intro H3 e3 rel3
          have := fin H3 e3 rel3
          cases htv : truthy tv <;> simp only [htv] at this ⊢ <;> exact this
      · have hi' : i = items.length := by omega
        subst hi'
        refine .inl ⟨jst (Nat.le_refl _), ?_⟩
        rw [List.drop_length] at hgo
        cases hgo
        have hD0 : H D = none := by
          cases q : H D with
          | none => rfl
          | some u =>
            have := e1 D u (fun z => hTD (o.loc D z)) q
            rw [hD] at this; cases this
        refine p D _ hD0 hTD (.inl ⟨_, hDl, hds'⟩) (fun a u h1 h2 => ?_) reli
        have hne : a ≠ D := fun z => by
          have := e1 a u h1 h2
          rw [z, hD] at this; cases this
        exact kp a u h1 hne (e1 a u h1 h2)
theorem se_dc {ke ve c : E S} {tgt : Tg} {it : Mir.It S} {own : List (Str × Nat)} {eke eve etg eiter : Expr} {ifs : List Expr} {scope : Scope} (nd : X.N.Nodup) (hc : X.calm = true) (hi : SI X k etg it eiter) (ok : BlkOk X.N X.env.scope scope own) (hf : okE eiter = true)
    (hown : ∀ i ∈ tgs tgt, i ∈ own.map (·.2)) (hds : ∀ p, k.slot = some p → p.1 ∉ own.map (·.2))
    (ht : BlkE X scope fun X' => TgOk X' tgt etg) (hcc : BlkE X scope fun X' => (ifs = [] ∧ c = .bl true) ∨ ∃ e, ifs = [e] ∧ ST X' k c e) (hke : BlkE X scope fun X' => SE X' k ke eke) (hve : BlkE X scope fun X' => SE X' k ve eve) :
    SE X k (.dc ke ve tgt it c own) (.DictComp eke eve [⟨etg, eiter, ifs, 0⟩] scope pos) := fun T ρ st σ H Q W n o t p =>
  (pe_dc (g := lcG X scope etg) (tt := lcT X scope ifs) (tk := lcE X scope eke) (tv := lcE X scope eve) hc nd pi_w ok lcG_ok lcT_ok lcE_ok lcE_ok (fold_ok hf _)).w (dc_read nd hc hi ok hf hown hds ht hcc hke hve n o t p.f)
/-! ### dict displays -/
def dTrs (X : Cx) : List (Option Expr) → List Expr → List (TE × TE)
  | some e :: ks, f :: vs => (wE X e, wE X f) :: dTrs X ks vs
  | _, _ => []
theorem pps_w {pos : Pos} : ∀ {keys : List (Option Expr)} {values : List Expr}, keys.all (·.isSome) = true → keys.length = values.length → PPs X pos keys values (dTrs X keys values)
  | [], [], _, _ => pps_nil
  | some e :: ks, f :: vs, h, hl => pps_cons pe_w pe_w (pps_w (by simpa using h) (by simpa using hl))
  | none :: _, _, h, _ => by simp at h
  | some _ :: _, [], _, hl => by simp at hl
  | [], _ :: _, _, hl => by simp at hl
def flatV : List (V × V) → List V
  | [] => []
  | p :: r => p.1 :: p.2 :: flatV r
def SPD (X : Cx) (k : SK S) (c : Es S) (keys : List (Option Expr)) (values : List Expr) : Prop := ∀ (T : Addr → Prop) (ρ : Env) (st : S) (σ : L2.St) (H : Hp) (Q : List (V × V) → Hp → Prop) (W : WX),
  EnvR X k T (fvs c) ρ σ H → Ok X k T st H → Takes X W → PostA X k T σ H (evs c ρ st) (fun vs H' => ∀ ps, flatV ps = vs → Q ps H') W → tPairs (dTrs X keys values) σ H Q
theorem flatV_nil {ps : List (V × V)} (h : flatV ps = []) : ps = [] := by
  cases ps with
  | nil => rfl
  | cons p r => cases h
theorem spd_nil : SPD X k .nil [] [] := fun T ρ st σ H Q W n o t p => p [] H .nil .refl o.rel [] rfl
theorem bnd_assoc {α β γ : Type} (m : M S α) (f : α → M S β) (g : β → M S γ) : bnd (bnd m f) g = bnd m fun x => bnd (f x) g := by
  funext s
  unfold bnd
  cases m s <;> rfl
theorem spd_cons {a b : E S} {ea eb : Expr} {r : Es S} {keys : List (Option Expr)} {values : List Expr} (ha : SE X k a ea) (hb : SE X k b eb) (hr : SPD X k r keys values) : SPD X k (.cons a (.cons b r)) (some ea :: keys) (eb :: values) := fun T ρ st σ H Q W n o t p => by
  have p : PostA X k T σ H (bnd (ev a ρ) (fun x => bnd (bnd (ev b ρ) fun y => bnd (evs r ρ) fun ys => ret (y :: ys)) fun xs => ret (x :: xs)) st) _ W := p
  have na : EnvR X k T (fv a) ρ σ H := n.sub fun i h => by simp only [fvs, List.mem_append]; exact .inl h
  have nb : EnvR X k T (fv b) ρ σ H := n.sub fun i h => by simp only [fvs, List.mem_append]; exact .inr (.inl h)
  have nr : EnvR X k T (fvs r) ρ σ H := n.sub fun i h => by simp only [fvs, List.mem_append]; exact .inr (.inr h)
  show wE X ea σ H fun x H1 => wE X eb σ H1 fun y H2 => tPairs (dTrs X keys values) σ H2 fun ps H3 => Q ((x, y) :: ps) H3
  refine ha.thenA na o t p fun d st1 v H1 r1 e1 o1 p1 => ?_
  rw [bnd_assoc] at p1
  refine hb.thenA (nb.next (o.extT e1)) o1 t p1 fun y st2 u H2 r2 e2 o2 p2 => ?_
  rw [bnd_assoc] at p2
  refine hr T ρ st2 σ H2 _ W (nr.next ((o.extT e1).trans (o1.extT e2))) o2 t ?_
  unfold bnd at p2
  unfold PostA at p2 ⊢
  cases hq : evs r ρ st2 with
  | exc x l => rw [hq] at p2; exact p2
  | bad => rw [hq] at p2; exact p2
  | ok z =>
    obtain ⟨ds, st3⟩ := z
    rw [hq] at p2
    intro vs H3 rv e3 rel3 ps hps
    exact p2 (v :: u :: vs) H3 (.cons ((r1.ext (o1.extT e2)).ext (o2.extT e3)) (.cons (r2.ext (o2.extT e3)) rv)) e3 rel3 ((v, u) :: ps) (by unfold flatV; rw [hps])
theorem pairUp_rep {T : Addr → Prop} {H : Hp} : ∀ {ds : List PyData} {kvs : List (PyData × PyData)} {ps : List (V × V)}, pairUp ds = some kvs → RepL T H ds (flatV ps) → ∃ l : List (Key × V), ps = l.map (fun kv => (kV kv.1, kv.2)) ∧ RepK T H kvs l
  | [], kvs, ps, h, r => by
    cases h
    have := flatV_nil r.nil_inv
    subst this
    exact ⟨[], rfl, by simp [RepK]⟩
  | [d], kvs, ps, h, r => nomatch h
  | d :: y :: ds, kvs, ps, h, r => by
    have h : (if flatK d = true then (pairUp ds).map ((d, y) :: ·) else none) = some kvs := h
    split at h
    · rename_i hf
      obtain ⟨kvs', hk, rfl⟩ := Option.map_eq_some_iff.mp h
      cases ps with
      | nil => exact nomatch r.length
      | cons p ps =>
        obtain ⟨x, t, e, h1, h2⟩ := r.cons_inv
        cases e
        obtain ⟨x2, t2, e2, h3, h4⟩ := h2.cons_inv
        cases e2
        obtain ⟨l, rfl, rl⟩ := pairUp_rep hk h4
        obtain ⟨kk, rfl, hv⟩ := flat_rep hf h1
        refine ⟨(kk, p.2) :: l, ?_, ?_⟩
        · rw [List.map_cons, ← hv]
        · simp only [RepK]
          exact ⟨_, _, _, rfl, rfl, h3, rl⟩
    · cases h
theorem pairUp_len : ∀ {ds : List PyData} {kvs : List (PyData × PyData)}, pairUp ds = some kvs → ds.length = 2 * kvs.length
  | [], _, h => by cases h; rfl
  | [_], _, h => nomatch h
  | d :: y :: ds, kvs, h => by
    have h : (if flatK d = true then (pairUp ds).map ((d, y) :: ·) else none) = some kvs := h
    split at h
    · obtain ⟨kvs', hk, rfl⟩ := Option.map_eq_some_iff.mp h
      have := pairUp_len hk
      simp; omega
    · cases h
theorem dlit_read {c : Es S} {keys : List (Option Expr)} {values : List Expr} (hs : SPD X k c keys values) {T : Addr → Prop} {ρ : Env} {st : S} {σ : L2.St} {H : Hp} {Q : VK} {W : WX} (n : EnvR X k T (fvs c) ρ σ H) (o : Ok X k T st H) (t : Takes X W) (p : PostF X k T σ H (ev (.dlit c) ρ st) Q W) :
    tDisp (dTrs X keys values) σ H Q := by
  intro D hD
  have hTD : ¬ T D := o.none hD
  have hkD : ¬ k.loc D := fun z => hTD (o.loc D z)
  let T' : Addr → Prop := fun a => T a ∨ a = D
  have mv : Mv T T' H (upd H D (.dK [])) := mvP hD
  have o1 : Ok X k T' st (upd H D (.dK [])) := by
    have rel1 := o.relNo (Ext.laid (T := NoT) (o := .dK []) hD)
    refine ⟨fun a h => ?_, fun a h => .inl (o.loc a h), rel1⟩
    by_cases ha : a = D
    · subst ha; exact ⟨_, upd_same, trivial⟩
    · rcases h with h | h
      · obtain ⟨u, hu, mu⟩ := o.dom a h
        exact ⟨u, by rw [upd_ne ha]; exact hu, mu⟩
      · exact absurd h ha
  refine hs T' ρ st σ _ _ W (n.mv mv) o1 t ?_
  have p : PostF X k T σ H (bnd (evs c ρ) (fun xs => match pairUp xs with
    | some ps => if ps.length ≤ 15 then ret (PyData.dict (mergeD [] ps)) else lft .bad
    | none => lft .bad) st) Q W := p
  unfold bnd at p
  unfold PostA
  cases hr : evs c ρ st with
  | exc x l =>
    rw [hr] at p
    exact fun cls dx H' hx e => p cls dx H' hx ((Ext.laid hD).trans e)
  | bad => rw [hr] at p; exact p
  | ok a =>
    obtain ⟨ds, st'⟩ := a
    rw [hr] at p
    intro vs H2 rv e2 rel2 ps hps
    subst hps
    have hD2 : H2 D = some (.dK []) := e2 _ _ hkD upd_same
    have p : PostF X k T σ H ((match pairUp ds with
      | some ps => if ps.length ≤ 15 then ret (PyData.dict (mergeD [] ps)) else lft .bad
      | none => lft .bad) st') Q W := p
    cases hq : pairUp ds with
    | none => rw [hq] at p; exact p.elim
    | some kvs =>
      rw [hq] at p
      have p : PostF X k T σ H ((if kvs.length ≤ 15 then ret (PyData.dict (mergeD [] kvs)) else lft .bad) st') Q W := p
      split at p
      · rename_i h15
        obtain ⟨l, rfl, rl⟩ := pairUp_rep hq rv
        refine ⟨hD2, l, rfl, by rw [← rl.length]; exact h15, p D _ hD hTD (.inl ⟨_, upd_same, ?_⟩) (fun a u h1 h2 => ?_) ?_⟩
        · have hTD' : T' D := .inr rfl
          exact RepK.mv (.of_ext (Ext.wr hTD')) _ _ (RepK.merge rl (by simp [RepK]))
        · have hne : a ≠ D := fun z => by rw [z, hD] at h2; cases h2
          rw [upd_ne hne]
          exact e2 _ _ h1 (by rw [upd_ne hne]; exact h2)
        · exact k.keep _ _ _ rel2 fun a ha => upd_ne fun z => hkD (by rw [← z]; exact ha)
      · exact p.elim
theorem sfx_dlit {c : Es S} {keys : List (Option Expr)} {values : List Expr} (hs : SPD X k c keys values) (hall : keys.all (·.isSome) = true) (hl : keys.length = values.length) (h0 : keys ≠ []) (h15 : keys.length ≤ 15) {T : Addr → Prop} {ρ : Env} {st : S} {σ : L2.St} {H : Hp} {Q : VK} {W : WX} (n : EnvR X k T (fvs c) ρ σ H) (o : Ok X k T st H) (t : Takes X W) (p : PostF X k T σ H (ev (.dlit c) ρ st) Q W) : wE X (.Dict keys values pos) σ H Q :=
  (pe_disp (pps_w hall hl) hall hl h0 h15).w (dlit_read hs n o t p)
theorem se_dlit {c : Es S} {keys : List (Option Expr)} {values : List Expr} (hs : SPD X k c keys values) (hall : keys.all (·.isSome) = true) (hl : keys.length = values.length) (h0 : keys ≠ []) (h15 : keys.length ≤ 15) : SE X k (.dlit c) (.Dict keys values pos) := fun T ρ st σ H Q W n o t p => sfx_dlit hs hall hl h0 h15 n o t p.f
end
end Mir

set_option Elab.async false
set_option linter.all false
set_option maxRecDepth 100000
set_option maxHeartbeats 4000000
/-! Mir, part H: is this expression of the text that one of the language? By looking. -/
namespace Mir
open PySem PySem.Spec PyProof.Rows L2

def visB (sc : Scope) (x : Str) : Bool := match sc.names.lookup x with
  | some .local => true | some .cell => true | some .free => true | _ => false
def locB (sc : Scope) (x : Str) : Bool := match sc.names.lookup x with
  | some .local => true | some .cell => true | _ => false
def plainName (x : Str) : Bool := !(x == ("__debug__" : Str)) && !(x == ("__classdict__" : Str))
def glB (sc : Scope) (x : Str) : Bool := decide (sc.names.lookup x = some .globalImplicit) && !(x == ("__debug__" : Str))
def bltNames : List String := ["len", "tuple", "list", "sorted", "all", "any", "int", "sum", "min", "max", "abs", "str", "isinstance", "bool", "dict", "range", "zip", "enumerate", "reversed", "set", "repr", "divmod"]
/-- stored names, by the scope at hand -/
def tgN (N : List Str) (sc : Scope) (i : Nat) : Expr → Bool
  | .Name x _ => decide (N[i]? = some x) && locB sc x
  | _ => false
def tgNs (N : List Str) (sc : Scope) : List Nat → List Expr → Bool
  | [], [] => true
  | i :: is, e :: es => tgN N sc i e && tgNs N sc is es
  | _, _ => false
def tgMix (N : List Str) (sc : Scope) : List TgI → List Expr → Bool
  | [], [] => true
  | .nm i :: ts, e :: es => tgN N sc i e && tgMix N sc ts es
  | .tup is :: ts, .Tuple es _ _ :: r => tgNs N sc is es && tgMix N sc ts r
  | _, _ => false
def tgB (N : List Str) (sc : Scope) : Tg → Expr → Bool
  | .nm i, e => tgN N sc i e
  | .tup is, .Tuple es _ _ => tgNs N sc is es
  | .mix ts, .Tuple es _ _ => tgMix N sc ts es
  | _, _ => false
/-- the part of a form of one part -/
def m1 (f : O1) (sc : Scope) (e : Expr) : Option Expr := match f with
  | .rev => (match e with
    | .Call (.Name l _) [.Call (.Name r _) [x] [] _] [] _ => if decide (("list" : Str) = l) && decide (("reversed" : Str) = r) && glB sc l && glB sc r then some x else none
    | _ => none)
  | .dictOf => (match e with
    | .Call (.Name d _) [x] [] _ => if decide (("dict" : Str) = d) && glB sc d then some x else none
    | _ => none)
  | .sortSet => (match e with
    | .Call (.Name l _) [.Call (.Name r _) [x] [] _] [] _ => if decide (("sorted" : Str) = l) && decide (("set" : Str) = r) && glB sc l && glB sc r then some x else none
    | _ => none)
  | .lenSet => (match e with
    | .Call (.Name l _) [.Call (.Name r _) [x] [] _] [] _ => if decide (("len" : Str) = l) && decide (("set" : Str) = r) && glB sc l && glB sc r then some x else none
    | _ => none)
def m2 (f : O2) (sc : Scope) (e : Expr) : Option (Expr × Expr) := match f with
  | .sindex => (match e with
    | .Call (.Attribute o nm ap) [x] [] p => if decide (("index" : Str) = nm) && baseOk o && (ap.endLine == p.line) then some (o, x) else none
    | _ => none)
  | .lindex => (match e with
    | .Call (.Attribute o nm ap) [x] [] p => if decide (("index" : Str) = nm) && baseOk o && (ap.endLine == p.line) then some (o, x) else none
    | _ => none)
  | _ => none
/-- the names of some defs -/
def pkB (sc : Scope) : List (Str × (List PyData → R PyData)) → List Expr → Bool
  | [], [] => true
  | p :: fs, .Name x _ :: es => decide (p.1 = x) && glB sc x && pkB sc fs es
  | _, _ => false
mutual
def mt {S : Type} (N : List Str) (ds : Option Nat) : Scope → E S → Expr → Bool
  | sc, .v i, e => match e with
    | .Name x _ => decide (N[i]? = some x) && visB sc x && plainName x
    | _ => false
  | _, .int i, e => match e with
    | .Constant (.int j) _ _ => decide (i = j)
    | _ => false
  | _, .bl i, e => match e with
    | .Constant (.bool j) _ _ => decide (i = j)
    | _ => false
  | _, .non, e => match e with
    | .Constant .none _ _ => true
    | _ => false
  | _, .str i, e => match e with
    | .Constant (.str j) _ _ => decide (i = j)
    | _ => false
  | sc, .glob x _, e => match e with
    | .Name y _ => decide (x = y) && glB sc x
    | _ => false
  | sc, .bin op a b, e => match e with
    | .BinOp l o r _ => decide (op = o) && mt N ds sc a l && mt N ds sc b r
    | _ => false
  | sc, .neg a, e => match e with
    | .UnaryOp .USub x _ => mt N ds sc a x
    | _ => false
  | sc, .not_ a, e => match e with
    | .UnaryOp .Not x _ => mt N ds sc a x
    | _ => false
  | sc, .and_ a b, e => match e with
    | .BoolOp .And (x :: y :: r) p => mt N ds sc a x && mt N ds sc b (.BoolOp .And (y :: r) p)
    | _ => false
  | sc, .or_ a b, e => match e with
    | .BoolOp .Or (x :: y :: r) p => mt N ds sc a x && mt N ds sc b (.BoolOp .Or (y :: r) p)
    | _ => false
  | sc, .one a, e => match e with
    | .BoolOp _ [x] _ => mt N ds sc a x
    | _ => false
  | sc, .cmp op a b, e => match e with
    | .Compare l [o] [r] _ => decide (op = o) && mt N ds sc a l && mt N ds sc b r
    | _ => false
  | sc, .chain o1 o2 a b c, e => match e with
    | .Compare l [p1, p2] [m, r] _ => decide (o1 = p1) && decide (o2 = p2) && mt N ds sc a l && mt N ds sc b m && mt N ds sc c r
    | _ => false
  | sc, .ite c a b, e => match e with
    | .IfExp t x y _ => mt N ds sc c t && mt N ds sc a x && mt N ds sc b y
    | _ => false
  | sc, .tup es, e => match e with
    | .Tuple xs _ _ => mts N ds sc es xs
    | _ => false
  | sc, .lst es, e => match e with
    | .List xs _ => mts N ds sc es xs
    | _ => false
  | _, .dict0, e => match e with
    | .Dict [] [] _ => true
    | _ => false
  | sc, .sub a i, e => match e with
    | .Subscript x y _ => mt N ds sc a x && mt N ds sc i y
    | _ => false
  | sc, .sl a lo hi, e => match e with
    | .Subscript x (.Slice (some l) (some h) none _) _ => mt N ds sc a x && mt N ds sc lo l && mt N ds sc hi h
    | _ => false
  | sc, .slL a lo, e => match e with
    | .Subscript x (.Slice (some l) none none _) _ => mt N ds sc a x && mt N ds sc lo l
    | _ => false
  | sc, .slH a hi, e => match e with
    | .Subscript x (.Slice none (some h) none _) _ => mt N ds sc a x && mt N ds sc hi h
    | _ => false
  | sc, .call nm _ es, e => match e with
    | .Call (.Name y _) (x :: xs) [] _ => decide (nm = y) && glB sc nm && mts N ds sc es (x :: xs)
    | _ => false
  | sc, .callS nm _ es, e => match e with
    | .Call (.Name y _) (.Name d _ :: xs) [] _ => decide (nm = y) && glB sc nm && (match ds with | some i => decide (N[i]? = some d) | none => false) && visB sc d && plainName d && mts N ds sc es xs
    | _ => false
  | sc, .blt f es, e => match e with
    | .Call (.Name y _) (x :: xs) [] _ => (match bltName f with | some (n, _) => decide (Str.ofString n = y) && bltNames.contains n | none => false) && glB sc y && mts N ds sc es (x :: xs)
    | _ => false
  | sc, .isa t a, e => match e with
    | .Call (.Name y _) [x, .Name z _] [] _ => decide (("isinstance" : Str) = y) && decide (Str.ofString (tyName t) = z) && glB sc y && glB sc z && mt N ds sc a x
    | _ => false
  | sc, .subG x _ i, e => match e with
    | .Subscript (.Name y _) z _ => decide (x = y) && glB sc x && okE z && mt N ds sc i z
    | _ => false
  | sc, .op1 f a, e => match m1 f sc e with
    | some x => okE x && mt N ds sc a x
    | none => false
  | sc, .op2 f a b, e => match m2 f sc e with
    | some (x, y) => okE y && mt N ds sc a x && mt N ds sc b y
    | none => false
  | _, .op3 _ _ _ _, _ => false
  | sc, .pick fs i es, e => match e with
    | .Call (.Subscript (.List ns _) ix _) (a :: as) [] _ => pkB sc fs ns && decide (fs.length ≤ 1000) && mt N ds sc i ix && mts N ds sc es (a :: as)
    | _ => false
  | sc, .lc elt tgt it c own, e => match e with
    | .ListComp x [⟨tg, iter, ifs, a⟩] scope _ => decide (a = 0) && mtI N ds sc it tg iter && blkC N sc scope own && (tgs tgt).all (fun i => (own.map (·.2)).contains i) && (match ds with | some p => !(own.map (·.2)).contains p | none => true) &&
        tgB N scope tgt tg && (match ifs with
          | [] => (match c with | .bl true => true | _ => false)
          | [t] => mt N ds (relS scope sc) c t
          | _ => false) && mt N ds (relS scope sc) elt x
    | _ => false
  | sc, .disp tu ss es, e => match e with
    | .Tuple xs _ _ => decide (tu = true) && mtd N ds sc ss es xs
    | .List xs _ => decide (tu = false) && mtd N ds sc ss es xs
    | _ => false
  | sc, .dc ke ve tgt it c own, e => match e with
    | .DictComp x1 x2 [⟨tg, iter, ifs, a⟩] scope _ => decide (a = 0) && mtI N ds sc it tg iter && blkC N sc scope own && (tgs tgt).all (fun i => (own.map (·.2)).contains i) && (match ds with | some p => !(own.map (·.2)).contains p | none => true) &&
        tgB N scope tgt tg && (match ifs with
          | [] => (match c with | .bl true => true | _ => false)
          | [t] => mt N ds (relS scope sc) c t
          | _ => false) && mt N ds (relS scope sc) ke x1 && mt N ds (relS scope sc) ve x2
    | _ => false
  | sc, .repr a, e => match e with
    | .Call (.Name y _) [x] [] _ => decide (("repr" : Str) = y) && glB sc y && mt N ds sc a x
    | _ => false
  | sc, .dlit es, e => match e with
    | .Dict ks vs _ => !ks.isEmpty && decide (ks.length ≤ 15) && mtp N ds sc es ks vs
    | _ => false
def mtp {S : Type} (N : List Str) (ds : Option Nat) : Scope → Es S → List (Option Expr) → List Expr → Bool
  | _, .nil, ks, vs => ks.isEmpty && vs.isEmpty
  | sc, .cons a r, ks, vs => match r with
    | .nil => false
    | .cons b r => (match ks, vs with
      | some x :: ks, y :: vs => mt N ds sc a x && mt N ds sc b y && mtp N ds sc r ks vs
      | _, _ => false)
def mtd {S : Type} (N : List Str) (ds : Option Nat) : Scope → List Bool → Es S → List Expr → Bool
  | _, _, .nil, es => es.isEmpty
  | sc, ss, .cons a r, es => match es with
    | .Starred y _ :: xs => (ss.headD false) && mt N ds sc a y && mtd N ds sc ss.tail r xs
    | x :: xs => (!ss.headD false) && mt N ds sc a x && mtd N ds sc ss.tail r xs
    | [] => false
def mts {S : Type} (N : List Str) (ds : Option Nat) : Scope → Es S → List Expr → Bool
  | _, .nil, es => es.isEmpty
  | sc, .cons a r, es => match es with
    | x :: xs => mt N ds sc a x && mts N ds sc r xs
    | [] => false
def mtI {S : Type} (N : List Str) (ds : Option Nat) : Scope → Mir.It S → Expr → Expr → Bool
  | sc, .of a, _, e => mt N ds sc a e
  | sc, .range1 a, _, e => match e with
    | .Call (.Name y _) [x] [] _ => decide (("range" : Str) = y) && glB sc y && mt N ds sc a x
    | _ => false
  | sc, .range2 a b, _, e => match e with
    | .Call (.Name y _) [x, z] [] _ => decide (("range" : Str) = y) && glB sc y && mt N ds sc a x && mt N ds sc b z
    | _ => false
  | sc, .zip a b, tg, e => match tg, e with
    | .Tuple _ _ _, .Call (.Name y _) [x, z] [] _ => decide (("zip" : Str) = y) && glB sc y && mt N ds sc a x && mt N ds sc b z
    | _, _ => false
  | sc, .enum a, tg, e => match tg, e with
    | .Tuple _ _ _, .Call (.Name y _) [x] [] _ => decide (("enumerate" : Str) = y) && glB sc y && mt N ds sc a x
    | _, _ => false
  | sc, .sign a, _, e => mt N ds sc a e
  | sc, .range3 a b c, _, e => match e with
    | .Call (.Name y _) [x, z, w] [] _ => decide (("range" : Str) = y) && glB sc y && mt N ds sc a x && mt N ds sc b z && mt N ds sc c w
    | _ => false
  | sc, .rev a, _, e => match e with
    | .Call (.Name y _) [x] [] _ => decide (("reversed" : Str) = y) && glB sc y && mt N ds sc a x
    | _ => false
  | sc, .enumZip a b, tg, e => match tg, e with
    | .Tuple _ _ _, .Call (.Name y _) [.Call (.Name y2 _) [x, z] [] _] [] _ => decide (("enumerate" : Str) = y) && decide (("zip" : Str) = y2) && glB sc y && glB sc y2 && mt N ds sc a x && mt N ds sc b z
    | _, _ => false
  | sc, .zip3 a b c, tg, e => match tg, e with
    | .Tuple _ _ _, .Call (.Name y _) [x, z, w] [] _ => decide (("zip" : Str) = y) && glB sc y && mt N ds sc a x && mt N ds sc b z && mt N ds sc c w
    | _, _ => false
end
mutual
def NeedE {S : Type} (G : GX) (k : SK S) : E S → Prop
  | .glob x d => GlobOk G.mg x d
  | .bin _ a b => NeedE G k a ∧ NeedE G k b
  | .neg a => NeedE G k a
  | .not_ a => NeedE G k a
  | .and_ a b => NeedE G k a ∧ NeedE G k b
  | .or_ a b => NeedE G k a ∧ NeedE G k b
  | .one a => NeedE G k a
  | .cmp _ a b => NeedE G k a ∧ NeedE G k b
  | .chain _ _ a b c => NeedE G k a ∧ NeedE G k b ∧ NeedE G k c
  | .ite c a b => NeedE G k c ∧ NeedE G k a ∧ NeedE G k b
  | .tup es => NeedEs G k es
  | .lst es => NeedEs G k es
  | .sub a i => NeedE G k a ∧ NeedE G k i
  | .sl a lo hi => NeedE G k a ∧ NeedE G k lo ∧ NeedE G k hi
  | .slL a lo => NeedE G k a ∧ NeedE G k lo
  | .slH a hi => NeedE G k a ∧ NeedE G k hi
  | .call nm m es => FnS G nm m (esLen es) ∧ NeedEs G k es
  | .callS nm m es => (∃ i da, k.slot = some (i, da) ∧ FnSS G k da nm m (esLen es)) ∧ NeedEs G k es
  | .blt _ es => NeedEs G k es
  | .isa _ a => NeedE G k a
  | .op1 _ a => NeedE G k a
  | .subG x kvs i => GDictOk G x kvs ∧ NeedE G k i
  | .op2 _ a b => NeedE G k a ∧ NeedE G k b
  | .op3 _ a b c => NeedE G k a ∧ NeedE G k b ∧ NeedE G k c
  | .lc elt _ it c _ => NeedI G k it ∧ NeedE G k c ∧ NeedE G k elt
  | .pick fs i es => NeedPk G (esLen es) fs ∧ NeedE G k i ∧ NeedEs G k es
  | .disp _ _ es => NeedEs G k es
  | .repr a => G.A.guards = some [] ∧ NeedE G k a
  | .dlit es => NeedEs G k es
  | .dc ke ve _ it c _ => NeedI G k it ∧ NeedE G k c ∧ NeedE G k ke ∧ NeedE G k ve
  | .v _ => True | .int _ => True | .bl _ => True | .non => True | .str _ => True | .dict0 => True
def NeedEs {S : Type} (G : GX) (k : SK S) : Es S → Prop
  | .nil => True
  | .cons a r => NeedE G k a ∧ NeedEs G k r
def NeedI {S : Type} (G : GX) (k : SK S) : Mir.It S → Prop
  | .of a => NeedE G k a
  | .range1 a => NeedE G k a
  | .range2 a b => NeedE G k a ∧ NeedE G k b
  | .zip a b => NeedE G k a ∧ NeedE G k b
  | .enum a => NeedE G k a
  | .sign a => NeedE G k a
  | .range3 a b c => NeedE G k a ∧ NeedE G k b ∧ NeedE G k c
  | .rev a => NeedE G k a
  | .enumZip a b => NeedE G k a ∧ NeedE G k b
  | .zip3 a b c => NeedE G k a ∧ NeedE G k b ∧ NeedE G k c
end
structure XG (X : Cx) {S : Type} (k : SK S) (N : List Str) (ds : Option Nat) (sp : Scope) : Prop extends XW X N sp where
  free : ∀ x ∈ bltNames, X.mg (Str.ofString x) = none
  slot : k.slot.map (·.1) = ds
theorem visB_ok {X : Cx} {sp : Scope} {x : Str} (h : X.env.scope = sp) (v : visB sp x = true) : Vis X.env.scope x := by
  unfold visB at v
  rw [h]
  split at v
  · rename_i q; exact .inl q
  · rename_i q; exact .inr (.inl q)
  · rename_i q; exact .inr (.inr q)
  · cases v
theorem glB_ok {X : Cx} {sp : Scope} {x : Str} (h : X.env.scope = sp) (v : glB sp x = true) : Gl X x ∧ (x == ("__debug__" : Str)) = false := by
  unfold glB at v
  simp only [Bool.and_eq_true, decide_eq_true_eq, Bool.not_eq_true'] at v
  refine ⟨?_, v.2⟩
  show X.env.scope.names.lookup x = _
  rw [h]; exact v.1
theorem plainName_ok {x : Str} (h : plainName x = true) : (x == ("__debug__" : Str)) = false ∧ (x == ("__classdict__" : Str)) = false := by
  unfold plainName at h
  simp only [Bool.and_eq_true, Bool.not_eq_true'] at h
  exact h
theorem locB_ok {sp : Scope} {x : Str} (v : locB sp x = true) : sp.names.lookup x = some .local ∨ sp.names.lookup x = some .cell := by
  unfold locB at v
  split at v
  · rename_i q; exact .inl q
  · rename_i q; exact .inr q
  · cases v
/-- a stored name of a def -/
theorem tgN_def {X : Cx} {N : List Str} {sp : Scope} {i : Nat} {e : Expr} (hn : X.N = N) (hs : X.env.scope = sp) (hf : ∀ x, X.fn x = true) (h : tgN N sp i e = true) : TgN X i e := by
  unfold tgN at h
  split at h
  · rename_i x pos
    simp only [Bool.and_eq_true, decide_eq_true_eq] at h
    refine ⟨x, pos, rfl, by rw [hn]; exact h.1, ?_, .inl (hf x)⟩
    rw [hs]; exact locB_ok h.2
  · cases h
/-- .. of a block -/
theorem tgN_blk {X : Cx} {N : List Str} {scope : Scope} {i : Nat} {e : Expr} (hn : X.N = N) (h : tgN N scope i e = true) : BlkE X scope fun X' => TgN X' i e := fun s H C cl fp => by
  unfold tgN at h
  split at h
  · rename_i x pos
    simp only [Bool.and_eq_true, decide_eq_true_eq] at h
    refine ⟨x, pos, rfl, by show X.N[i]? = _; rw [hn]; exact h.1, ?_, ?_⟩
    · rcases locB_ok h.2 with q | q
      · exact .inl (lookup_relS_keep (by decide) q)
      · exact .inr (lookup_relS_keep (by decide) q)
    · rcases locB_ok h.2 with q | q
      · exact .inr (lookup_relS_keep (by decide) q)
      · refine .inl ?_
        show (scope.names.lookup x == some .cell) = true
        rw [q]; rfl
  · cases h
theorem tgNs_of {X : Cx} {N : List Str} {sp : Scope} (q : ∀ i e, tgN N sp i e = true → TgN X i e) : ∀ {is : List Nat} {es : List Expr}, tgNs N sp is es = true → TgNs X is es
  | [], [], _ => trivial
  | i :: is, e :: es, h => by
    simp only [tgNs, Bool.and_eq_true] at h
    exact ⟨q i e h.1, tgNs_of q h.2⟩
  | [], _ :: _, h => by cases h
  | _ :: _, [], h => by cases h
theorem tgMix_of {X : Cx} {N : List Str} {sp : Scope} (q : ∀ i e, tgN N sp i e = true → TgN X i e) : ∀ {ts : List TgI} {es : List Expr}, tgMix N sp ts es = true → TgIs X ts es
  | [], [], _ => by simp [TgIs]
  | .nm i :: ts, e :: es, h => by
    have h : (tgN N sp i e && tgMix N sp ts es) = true := by simpa [tgMix] using h
    rw [Bool.and_eq_true] at h
    simp only [TgIs]
    exact ⟨q i e h.1, tgMix_of q h.2⟩
  | .tup is :: ts, e :: r, h => by
    cases e with
    | Tuple es j p =>
      have h : (tgNs N sp is es && tgMix N sp ts r) = true := by simpa [tgMix] using h
      rw [Bool.and_eq_true] at h
      simp only [TgIs]
      exact ⟨tgNs_of q h.1, tgMix_of q h.2⟩
    | _ => simp [tgMix] at h
  | [], _ :: _, h => by simp [tgMix] at h
  | .nm _ :: _, [], h => by simp [tgMix] at h
  | .tup _ :: _, [], h => by simp [tgMix] at h
theorem tgB_of {X : Cx} {N : List Str} {sp : Scope} (q : ∀ i e, tgN N sp i e = true → TgN X i e) {tg : Tg} {e : Expr} (h : tgB N sp tg e = true) : TgOk X tg e := by
  cases tg with
  | nm i => exact q i e h
  | tup is =>
    cases e with
    | Tuple es j p => exact tgNs_of q h
    | _ => cases h
  | mix ts =>
    cases e with
    | Tuple es j p => exact tgMix_of q h
    | _ => cases h
theorem gl_free {X : Cx} {S : Type} {k : SK S} {N : List Str} {ds : Option Nat} {sp : Scope} (g : XG X k N ds sp) {n : String} (h : bltNames.contains n = true) : X.mg (Str.ofString n) = none := g.free n (by simpa using h)
theorem blk_g {X : Cx} {S : Type} {k : SK S} {N : List Str} {ds : Option Nat} {sp scope : Scope} (g : XG X k N ds sp) : BlkE X scope fun X' => XG X' k N ds (relS scope sp) := fun s H C cl fp =>
  { n := g.n, nd := g.nd, sc := by show relS scope X.env.scope = _; rw [g.sc], calm := g.calm, room := g.room, free := g.free, slot := g.slot }
/-- what is shown of an expression -/
structure Is (X : Cx) {S : Type} (k : SK S) (c : E S) (ex : Expr) : Prop where
  e : SE X k c ex
  t : ST X k c ex
  w : ∀ op vs p, ex = .BoolOp op vs p → SW X k c ex
  ok : okE ex = true
theorem Is.of {X : Cx} {S : Type} {k : SK S} {c : E S} {e : Expr} (h : SE X k c e) (p : plainT e = true) (o : okE e = true) : Is X k c e := ⟨h, ST.of h p, fun op vs q z => (by subst z; cases p), o⟩
theorem m1_ok {X : Cx} {S : Type} {k : SK S} {N : List Str} {ds : Option Nat} {sp : Scope} (g : XG X k N ds sp) {f : O1} {e x : Expr} (h : m1 f sp e = some x) (hk : okE x = true) : Is1 X f x e ∧ plainT e = true ∧ okE e = true := by
  unfold m1 at h
  split at h
  · split at h
    · split at h
      · rename_i hz
        cases h
        simp only [Bool.and_eq_true, decide_eq_true_eq] at hz
        obtain ⟨⟨⟨rfl, rfl⟩, h3⟩, h4⟩ := hz
        exact ⟨is_rev g.calm (glB_ok g.sc h3).1 (gl_free g (n := "list") (by decide)) (glB_ok g.sc h4).1 (gl_free g (n := "reversed") (by decide)) hk, rfl, rfl⟩
      · cases h
    · cases h
  · split at h
    · split at h
      · rename_i hz
        cases h
        simp only [Bool.and_eq_true, decide_eq_true_eq] at hz
        obtain ⟨rfl, h3⟩ := hz
        exact ⟨is_dictOf g.calm (glB_ok g.sc h3).1 (gl_free g (n := "dict") (by decide)) hk, rfl, rfl⟩
      · cases h
    · cases h
  · split at h
    · split at h
      · rename_i hz
        cases h
        simp only [Bool.and_eq_true, decide_eq_true_eq] at hz
        obtain ⟨⟨⟨rfl, rfl⟩, h3⟩, h4⟩ := hz
        exact ⟨is_sortSet g.calm (glB_ok g.sc h3).1 (gl_free g (n := "sorted") (by decide)) (glB_ok g.sc h4).1 (gl_free g (n := "set") (by decide)) hk, rfl, rfl⟩
      · cases h
    · cases h
  · split at h
    · split at h
      · rename_i hz
        cases h
        simp only [Bool.and_eq_true, decide_eq_true_eq] at hz
        obtain ⟨⟨⟨rfl, rfl⟩, h3⟩, h4⟩ := hz
        exact ⟨is_lenSet g.calm (glB_ok g.sc h3).1 (gl_free g (n := "len") (by decide)) (glB_ok g.sc h4).1 (gl_free g (n := "set") (by decide)) hk, rfl, rfl⟩
      · cases h
    · cases h
theorem m2_ok {X : Cx} {S : Type} {k : SK S} {N : List Str} {ds : Option Nat} {sp : Scope} (g : XG X k N ds sp) {f : O2} {e x y : Expr} (h : m2 f sp e = some (x, y)) (hk : okE y = true) : Is2 X f x y e ∧ plainT e = true ∧ okE e = true := by
  unfold m2 at h
  split at h
  · split at h
    · split at h
      · rename_i hz
        cases h
        simp only [Bool.and_eq_true, decide_eq_true_eq] at hz
        obtain ⟨⟨rfl, h3⟩, h4⟩ := hz
        exact ⟨is_sindex hk h3 h4, rfl, rfl⟩
      · cases h
    · cases h
  · split at h
    · split at h
      · rename_i hz
        cases h
        simp only [Bool.and_eq_true, decide_eq_true_eq] at hz
        obtain ⟨⟨rfl, h3⟩, h4⟩ := hz
        exact ⟨is_lindex hk h3 h4, rfl, rfl⟩
      · cases h
    · cases h
  · cases h
theorem pkB_ok {X : Cx} {sp : Scope} (hs : X.env.scope = sp) : ∀ (fs : List (Str × (List PyData → R PyData))) (es : List Expr), pkB sp fs es = true → PkNs X fs es
  | [], [], _ => .nil
  | [], _ :: _, h => by cases h
  | (y, m) :: fs, es, h => by
    unfold pkB at h
    split at h
    · rename_i z; cases z
    · rename_i p fs' x q es' heq
      cases heq
      simp only [Bool.and_eq_true, decide_eq_true_eq] at h
      obtain ⟨⟨rfl, h2⟩, h3⟩ := h
      exact .cons (glB_ok hs h2).1 (glB_ok hs h2).2 (pkB_ok hs fs es' h3)
    · cases h
mutual
theorem mt_ok {S : Type} {k : SK S} {N : List Str} {ds : Option Nat} : ∀ (c : E S) (X : Cx) (sp : Scope) (e : Expr), XG X k N ds sp → NeedE (gx X) k c → mt N ds sp c e = true → Is X k c e
  | .v i, X, sp, e, g, nd, h => by
    simp only [mt] at h
    split at h
    · simp only [Bool.and_eq_true, decide_eq_true_eq] at h
      obtain ⟨h1, h2⟩ := plainName_ok h.2
      exact .of (se_v (by rw [g.n]; exact h.1.1) (visB_ok g.sc h.1.2) h1 h2) rfl rfl
    · cases h
  | .int i, X, sp, e, g, nd, h => by
    simp only [mt] at h
    split at h
    · simp only [decide_eq_true_eq] at h
      subst h
      exact .of se_int rfl rfl
    · cases h
  | .bl i, X, sp, e, g, nd, h => by
    simp only [mt] at h
    split at h
    · simp only [decide_eq_true_eq] at h
      subst h
      exact .of se_bl rfl rfl
    · cases h
  | .non, X, sp, e, g, nd, h => by
    simp only [mt] at h
    split at h
    · exact .of se_non rfl rfl
    · cases h
  | .str i, X, sp, e, g, nd, h => by
    simp only [mt] at h
    split at h
    · simp only [decide_eq_true_eq] at h
      subst h
      exact .of se_str rfl rfl
    · cases h
  | .glob x d, X, sp, e, g, nd, h => by
    simp only [mt] at h
    split at h
    · simp only [Bool.and_eq_true, decide_eq_true_eq] at h
      obtain ⟨rfl, h2⟩ := h
      obtain ⟨h3, h4⟩ := glB_ok g.sc h2
      exact .of (se_glob h3 h4 nd) rfl rfl
    · cases h
  | .bin op a b, X, sp, e, g, nd, h => by
    simp only [mt] at h
    split at h
    · simp only [Bool.and_eq_true, decide_eq_true_eq] at h
      obtain ⟨⟨rfl, h1⟩, h2⟩ := h
      exact .of (se_bin (mt_ok a X sp _ g nd.1 h1).e (mt_ok b X sp _ g nd.2 h2).e) rfl rfl
    · cases h
  | .neg a, X, sp, e, g, nd, h => by
    simp only [mt] at h
    split at h
    · exact .of (se_neg (mt_ok a X sp _ g nd h).e) rfl rfl
    · cases h
  | .not_ a, X, sp, e, g, nd, h => by
    simp only [mt] at h
    split at h
    · have q := mt_ok a X sp _ g nd h
      exact ⟨se_not q.e, st_not q.t, fun _ _ _ z => (nomatch z), rfl⟩
    · cases h
  | .and_ a b, X, sp, e, g, nd, h => by
    simp only [mt] at h
    split at h
    · simp only [Bool.and_eq_true] at h
      have q1 := mt_ok a X sp _ g nd.1 h.1
      have q2 := mt_ok b X sp _ g nd.2 h.2
      have sw := sw_and q1.t (q2.w _ _ _ rfl)
      exact ⟨se_and q1.e q2.e, sw.t, fun _ _ _ _ => sw, rfl⟩
    · cases h
  | .or_ a b, X, sp, e, g, nd, h => by
    simp only [mt] at h
    split at h
    · simp only [Bool.and_eq_true] at h
      have q1 := mt_ok a X sp _ g nd.1 h.1
      have q2 := mt_ok b X sp _ g nd.2 h.2
      have sw := sw_or q1.t (q2.w _ _ _ rfl)
      exact ⟨se_or q1.e q2.e, sw.t, fun _ _ _ _ => sw, rfl⟩
    · cases h
  | .one a, X, sp, e, g, nd, h => by
    simp only [mt] at h
    split at h
    · rename_i op _ _
      have q := mt_ok a X sp _ g nd h
      cases op with
      | And => exact ⟨se_one q.e, (sw_oneA q.t).t, fun _ _ _ _ => sw_oneA q.t, rfl⟩
      | Or => exact ⟨se_one q.e, (sw_oneO q.t).t, fun _ _ _ _ => sw_oneO q.t, rfl⟩
    · cases h
  | .cmp op a b, X, sp, e, g, nd, h => by
    simp only [mt] at h
    split at h
    · simp only [Bool.and_eq_true, decide_eq_true_eq] at h
      obtain ⟨⟨rfl, h1⟩, h2⟩ := h
      have q1 := mt_ok a X sp _ g nd.1 h1
      have q2 := mt_ok b X sp _ g nd.2 h2
      exact ⟨se_cmp g.room q1.e q2.e q2.ok, st_cmp g.room q1.e q2.e q2.ok, fun _ _ _ z => (nomatch z), rfl⟩
    · cases h
  | .chain o1 o2 a b c, X, sp, e, g, nd, h => by
    simp only [mt] at h
    split at h
    · simp only [Bool.and_eq_true, decide_eq_true_eq] at h
      obtain ⟨⟨⟨⟨rfl, rfl⟩, h1⟩, h2⟩, h3⟩ := h
      have q1 := mt_ok a X sp _ g nd.1 h1
      have q2 := mt_ok b X sp _ g nd.2.1 h2
      have q3 := mt_ok c X sp _ g nd.2.2 h3
      exact ⟨se_chain g.room q1.e q2.e q3.e q2.ok q3.ok, st_chain g.room q1.e q2.e q3.e q2.ok q3.ok, fun _ _ _ z => (nomatch z), rfl⟩
    · cases h
  | .ite c a b, X, sp, e, g, nd, h => by
    simp only [mt] at h
    split at h
    · simp only [Bool.and_eq_true] at h
      have q1 := mt_ok c X sp _ g nd.1 h.1.1
      have q2 := mt_ok a X sp _ g nd.2.1 h.1.2
      have q3 := mt_ok b X sp _ g nd.2.2 h.2
      exact ⟨se_ite q1.t q2.e q3.e, st_ite q1.t q2.t q3.t, fun _ _ _ z => (nomatch z), rfl⟩
    · cases h
  | .tup es, X, sp, e, g, nd, h => by
    simp only [mt] at h
    split at h
    · exact .of (se_tup (mts_ok es X sp _ g nd h).1) rfl rfl
    · cases h
  | .lst es, X, sp, e, g, nd, h => by
    simp only [mt] at h
    split at h
    · exact .of (se_lst (mts_ok es X sp _ g nd h).1) rfl rfl
    · cases h
  | .dict0, X, sp, e, g, nd, h => by
    simp only [mt] at h
    split at h
    · exact .of se_dict0 rfl rfl
    · cases h
  | .sub a i, X, sp, e, g, nd, h => by
    simp only [mt] at h
    split at h
    · simp only [Bool.and_eq_true] at h
      have q2 := mt_ok i X sp _ g nd.2 h.2
      exact .of (se_sub g.room (mt_ok a X sp _ g nd.1 h.1).e q2.e q2.ok) rfl rfl
    · cases h
  | .sl a lo hi, X, sp, e, g, nd, h => by
    simp only [mt] at h
    split at h
    · simp only [Bool.and_eq_true] at h
      exact .of (se_sl (mt_ok a X sp _ g nd.1 h.1.1).e (mt_ok lo X sp _ g nd.2.1 h.1.2).e (mt_ok hi X sp _ g nd.2.2 h.2).e) rfl rfl
    · cases h
  | .slL a lo, X, sp, e, g, nd, h => by
    simp only [mt] at h
    split at h
    · simp only [Bool.and_eq_true] at h
      exact .of (se_slL (mt_ok a X sp _ g nd.1 h.1).e (mt_ok lo X sp _ g nd.2 h.2).e) rfl rfl
    · cases h
  | .slH a hi, X, sp, e, g, nd, h => by
    simp only [mt] at h
    split at h
    · simp only [Bool.and_eq_true] at h
      exact .of (se_slH (mt_ok a X sp _ g nd.1 h.1).e (mt_ok hi X sp _ g nd.2 h.2).e) rfl rfl
    · cases h
  | .call nm m es, X, sp, e, g, nd, h => by
    simp only [mt] at h
    split at h
    · simp only [Bool.and_eq_true, decide_eq_true_eq] at h
      obtain ⟨⟨rfl, h2⟩, h3⟩ := h
      obtain ⟨h4, h5⟩ := glB_ok g.sc h2
      obtain ⟨a1, a2⟩ := mts_ok es X sp _ g nd.2 h3
      exact .of (se_call nd.1 h4 h5 a1 a2) rfl rfl
    · cases h
  | .callS nm m es, X, sp, e, g, nd, h => by
    simp only [mt] at h
    split at h
    · simp only [Bool.and_eq_true, decide_eq_true_eq] at h
      obtain ⟨⟨⟨⟨⟨rfl, h2⟩, h3⟩, h4⟩, h5⟩, h6⟩ := h
      obtain ⟨h7, h8⟩ := glB_ok g.sc h2
      obtain ⟨h9, h10⟩ := plainName_ok h5
      obtain ⟨a1, a2⟩ := mts_ok es X sp _ g nd.2 h6
      obtain ⟨i, da, hs, hf⟩ := nd.1
      have hi : ds = some i := by rw [← g.slot, hs]; rfl
      rw [hi] at h3
      simp only [decide_eq_true_eq] at h3
      exact .of (se_callS hs (by rw [g.n]; exact h3) (visB_ok g.sc h4) h9 h10 hf h7 h8 a1 a2) rfl rfl
    · cases h
  | .blt f es, X, sp, e, g, nd, h => by
    simp only [mt] at h
    split at h
    · simp only [Bool.and_eq_true, decide_eq_true_eq] at h
      obtain ⟨⟨h1, h2⟩, h3⟩ := h
      split at h1
      · rename_i n ty hb
        simp only [Bool.and_eq_true, decide_eq_true_eq] at h1
        obtain ⟨rfl, h1⟩ := h1
        obtain ⟨h4, h5⟩ := glB_ok g.sc h2
        obtain ⟨a1, a2⟩ := mts_ok es X sp _ g nd h3
        exact .of (se_blt g.room g.calm hb h4 (gl_free g h1) a1 a2) rfl rfl
      · cases h1
    · cases h
  | .isa t a, X, sp, e, g, nd, h => by
    simp only [mt] at h
    split at h
    · simp only [Bool.and_eq_true, decide_eq_true_eq] at h
      obtain ⟨⟨⟨⟨rfl, rfl⟩, h2⟩, h3⟩, h4⟩ := h
      have q := mt_ok a X sp _ g nd h4
      exact .of (se_isa (glB_ok g.sc h2).1 (gl_free g (n := "isinstance") (by decide)) (glB_ok g.sc h3).1 (gl_free g (by cases t <;> decide)) q.e q.ok) rfl rfl
    · cases h
  | .subG x kvs i, X, sp, e, g, nd, h => by
    simp only [mt] at h
    split at h
    · simp only [Bool.and_eq_true, decide_eq_true_eq] at h
      obtain ⟨⟨⟨rfl, h2⟩, h3⟩, h4⟩ := h
      obtain ⟨h5, h6⟩ := glB_ok g.sc h2
      exact .of (se_subG h5 h6 nd.1 (mt_ok i X sp _ g nd.2 h4).e h3) rfl rfl
    · cases h
  | .op1 f a, X, sp, e, g, nd, h => by
    simp only [mt] at h
    split at h
    · rename_i x hx
      rw [Bool.and_eq_true] at h
      obtain ⟨i, p, o⟩ := m1_ok g hx h.1
      exact .of (se_op1 i (mt_ok a X sp _ g nd h.2).e) p o
    · cases h
  | .op2 f a b, X, sp, e, g, nd, h => by
    simp only [mt] at h
    split at h
    · rename_i x y hx
      simp only [Bool.and_eq_true] at h
      obtain ⟨i, p, o⟩ := m2_ok g hx h.1.1
      exact .of (se_op2 i (mt_ok a X sp _ g nd.1 h.1.2).e (mt_ok b X sp _ g nd.2 h.2).e) p o
    · cases h
  | .op3 f a b c, X, sp, e, g, nd, h => by
    simp only [mt] at h
    cases h
  | .lc elt tgt it c own, X, sp, e, g, nd, h => by
    simp only [mt] at h
    split at h
    · rename_i x tg iter ifs a scope pos
      simp only [Bool.and_eq_true, decide_eq_true_eq, List.all_eq_true] at h
      obtain ⟨⟨⟨⟨⟨⟨⟨rfl, h1⟩, h2⟩, h3⟩, h4⟩, h5⟩, h6⟩, h7⟩ := h
      obtain ⟨qi, oi⟩ := mtI_ok it X sp tg _ g nd.1 h1
      refine .of (se_lc (by rw [g.n]; exact g.nd) g.calm qi (by rw [g.n, g.sc]; exact blkOk_by h2) oi (fun i hi => by simpa using h3 i hi) (fun p hp => ?_) (fun s H C cl fp => tgB_of (fun i e q => tgN_blk g.n q s H C cl fp) h5) (fun s H C cl fp => ?_) (fun s H C cl fp => ?_)) rfl rfl
      · have hi : ds = some p.1 := by rw [← g.slot, hp]; rfl
        rw [hi] at h4
        simpa using h4
      · split at h6
        · split at h6
          · exact .inl ⟨rfl, rfl⟩
          · cases h6
        · exact .inr ⟨_, rfl, (mt_ok c _ _ _ (blk_g g s H C cl fp) nd.2.1 h6).t⟩
        · cases h6
      · exact (mt_ok elt _ _ _ (blk_g g s H C cl fp) nd.2.2 h7).e
    · cases h
  | .pick fs i es, X, sp, e, g, nd, h => by
    simp only [mt] at h
    split at h
    · simp only [Bool.and_eq_true, decide_eq_true_eq] at h
      obtain ⟨⟨⟨h1, h2⟩, h3⟩, h4⟩ := h
      have q := mt_ok i X sp _ g nd.2.1 h3
      obtain ⟨a1, a2⟩ := mts_ok es X sp _ g nd.2.2 h4
      exact .of (se_pick (pkB_ok g.sc fs _ h1) nd.1 h2 q.e q.ok a1 a2) rfl rfl
    · cases h
  | .disp tu ss es, X, sp, e, g, nd, h => by
    simp only [mt] at h
    split at h
    · simp only [Bool.and_eq_true, decide_eq_true_eq] at h
      obtain ⟨rfl, h2⟩ := h
      exact .of (se_dispT (mtd_ok es ss X sp _ g nd h2)) rfl rfl
    · simp only [Bool.and_eq_true, decide_eq_true_eq] at h
      obtain ⟨rfl, h2⟩ := h
      exact .of (se_dispL (mtd_ok es ss X sp _ g nd h2)) rfl rfl
    · cases h
  | .dc ke ve tgt it c own, X, sp, e, g, nd, h => by
    simp only [mt] at h
    split at h
    · rename_i x1 x2 tg iter ifs a scope pos
      simp only [Bool.and_eq_true, decide_eq_true_eq, List.all_eq_true] at h
      obtain ⟨⟨⟨⟨⟨⟨⟨⟨rfl, h1⟩, h2⟩, h3⟩, h4⟩, h5⟩, h6⟩, h7⟩, h8⟩ := h
      obtain ⟨qi, oi⟩ := mtI_ok it X sp tg _ g nd.1 h1
      refine .of (se_dc (by rw [g.n]; exact g.nd) g.calm qi (by rw [g.n, g.sc]; exact blkOk_by h2) oi (fun i hi => by simpa using h3 i hi) (fun p hp => ?_) (fun s H C cl fp => tgB_of (fun i e q => tgN_blk g.n q s H C cl fp) h5) (fun s H C cl fp => ?_) (fun s H C cl fp => ?_) (fun s H C cl fp => ?_)) rfl rfl
      · have hi : ds = some p.1 := by rw [← g.slot, hp]; rfl
        rw [hi] at h4
        simpa using h4
      · split at h6
        · split at h6
          · exact .inl ⟨rfl, rfl⟩
          · cases h6
        · exact .inr ⟨_, rfl, (mt_ok c _ _ _ (blk_g g s H C cl fp) nd.2.1 h6).t⟩
        · cases h6
      · exact (mt_ok ke _ _ _ (blk_g g s H C cl fp) nd.2.2.1 h7).e
      · exact (mt_ok ve _ _ _ (blk_g g s H C cl fp) nd.2.2.2 h8).e
    · cases h
  | .repr a, X, sp, e, g, nd, h => by
    simp only [mt] at h
    split at h
    · simp only [Bool.and_eq_true, decide_eq_true_eq] at h
      obtain ⟨⟨rfl, h2⟩, h3⟩ := h
      have q := mt_ok a X sp _ g nd.2 h3
      exact .of (se_repr nd.1 g.room (glB_ok g.sc h2).1 (gl_free g (n := "repr") (by decide)) q.e q.ok) rfl rfl
    · cases h
  | .dlit es, X, sp, e, g, nd, h => by
    simp only [mt] at h
    split at h
    · simp only [Bool.and_eq_true, decide_eq_true_eq, Bool.not_eq_true'] at h
      obtain ⟨⟨h1, h2⟩, h3⟩ := h
      obtain ⟨q1, q2, q3⟩ := mtp_ok es X sp _ _ g nd h3
      exact .of (se_dlit q1 q2 q3 (fun z => by rw [z] at h1; cases h1) h2) rfl rfl
    · cases h
theorem mtp_ok {S : Type} {k : SK S} {N : List Str} {ds : Option Nat} : ∀ (c : Es S) (X : Cx) (sp : Scope) (ks : List (Option Expr)) (vs : List Expr), XG X k N ds sp → NeedEs (gx X) k c → mtp N ds sp c ks vs = true → SPD X k c ks vs ∧ ks.all (·.isSome) = true ∧ ks.length = vs.length
  | .nil, X, sp, ks, vs, g, nd, h => by
    simp only [mtp, Bool.and_eq_true, List.isEmpty_iff] at h
    obtain ⟨rfl, rfl⟩ := h
    exact ⟨spd_nil, rfl, rfl⟩
  | .cons a .nil, X, sp, ks, vs, g, nd, h => by
    simp [mtp] at h
  | .cons a (.cons b r), X, sp, ks, vs, g, nd, h => by
    simp only [mtp] at h
    split at h
    · simp only [Bool.and_eq_true] at h
      obtain ⟨q1, q2, q3⟩ := mtp_ok r X sp _ _ g nd.2.2 h.2
      exact ⟨spd_cons (mt_ok a X sp _ g nd.1 h.1.1).e (mt_ok b X sp _ g nd.2.1 h.1.2).e q1, by simpa using q2, by simpa using q3⟩
    · cases h
theorem mtd_ok {S : Type} {k : SK S} {N : List Str} {ds : Option Nat} : ∀ (c : Es S) (ss : List Bool) (X : Cx) (sp : Scope) (es : List Expr), XG X k N ds sp → NeedEs (gx X) k c → mtd N ds sp ss c es = true → SD X k ss c es
  | .nil, ss, X, sp, es, g, nd, h => by
    cases es with
    | nil => exact sd_nil
    | cons a b => cases h
  | .cons a r, ss, X, sp, es, g, nd, h => by
    simp only [mtd] at h
    split at h
    · simp only [Bool.and_eq_true] at h
      exact sd_star (mt_ok a X sp _ g nd.1 h.1.2).e (mtd_ok r ss.tail X sp _ g nd.2 h.2) h.1.1
    · simp only [Bool.and_eq_true, Bool.not_eq_true'] at h
      have q := mt_ok a X sp _ g nd.1 h.1.2
      exact sd_cons q.e (mtd_ok r ss.tail X sp _ g nd.2 h.2) q.ok h.1.1
    · cases h
theorem mts_ok {S : Type} {k : SK S} {N : List Str} {ds : Option Nat} : ∀ (c : Es S) (X : Cx) (sp : Scope) (es : List Expr), XG X k N ds sp → NeedEs (gx X) k c → mts N ds sp c es = true → SA X k c es ∧ es.all okE = true
  | .nil, X, sp, es, g, nd, h => by
    cases es with
    | nil => exact ⟨sa_nil, rfl⟩
    | cons a b => cases h
  | .cons a r, X, sp, es, g, nd, h => by
    simp only [mts] at h
    split at h
    · simp only [Bool.and_eq_true] at h
      have q := mt_ok a X sp _ g nd.1 h.1
      obtain ⟨a1, a2⟩ := mts_ok r X sp _ g nd.2 h.2
      exact ⟨sa_cons q.e a1 q.ok, by simp [q.ok, a2]⟩
    · cases h
theorem mtI_ok {S : Type} {k : SK S} {N : List Str} {ds : Option Nat} : ∀ (c : Mir.It S) (X : Cx) (sp : Scope) (tg e : Expr), XG X k N ds sp → NeedI (gx X) k c → mtI N ds sp c tg e = true → SI X k tg c e ∧ okE e = true
  | .of a, X, sp, tg, e, g, nd, h => by
    simp only [mtI] at h
    have q := mt_ok a X sp _ g nd h
    exact ⟨si_of q.e, q.ok⟩
  | .sign a, X, sp, tg, e, g, nd, h => by
    simp only [mtI] at h
    have q := mt_ok a X sp _ g nd h
    exact ⟨si_sign q.e, q.ok⟩
  | .range1 a, X, sp, tg, e, g, nd, h => by
    simp only [mtI] at h
    split at h
    · simp only [Bool.and_eq_true, decide_eq_true_eq] at h
      obtain ⟨⟨rfl, h2⟩, h3⟩ := h
      have q := mt_ok a X sp _ g nd h3
      exact ⟨si_range1 (glB_ok g.sc h2).1 (gl_free g (n := "range") (by decide)) q.e q.ok, rfl⟩
    · cases h
  | .range2 a b, X, sp, tg, e, g, nd, h => by
    simp only [mtI] at h
    split at h
    · simp only [Bool.and_eq_true, decide_eq_true_eq] at h
      obtain ⟨⟨⟨rfl, h2⟩, h3⟩, h4⟩ := h
      have q := mt_ok a X sp _ g nd.1 h3
      have q2 := mt_ok b X sp _ g nd.2 h4
      exact ⟨si_range2 (glB_ok g.sc h2).1 (gl_free g (n := "range") (by decide)) q.e q2.e q.ok q2.ok, rfl⟩
    · cases h
  | .zip a b, X, sp, tg, e, g, nd, h => by
    simp only [mtI] at h
    split at h
    · simp only [Bool.and_eq_true, decide_eq_true_eq] at h
      obtain ⟨⟨⟨rfl, h2⟩, h3⟩, h4⟩ := h
      have q := mt_ok a X sp _ g nd.1 h3
      have q2 := mt_ok b X sp _ g nd.2 h4
      exact ⟨si_zip (glB_ok g.sc h2).1 (gl_free g (n := "zip") (by decide)) q.e q2.e q.ok q2.ok, rfl⟩
    · cases h
  | .enum a, X, sp, tg, e, g, nd, h => by
    simp only [mtI] at h
    split at h
    · simp only [Bool.and_eq_true, decide_eq_true_eq] at h
      obtain ⟨⟨rfl, h2⟩, h3⟩ := h
      have q := mt_ok a X sp _ g nd h3
      exact ⟨si_enum (glB_ok g.sc h2).1 (gl_free g (n := "enumerate") (by decide)) q.e q.ok, rfl⟩
    · cases h
  | .range3 a b c, X, sp, tg, e, g, nd, h => by
    simp only [mtI] at h
    split at h
    · simp only [Bool.and_eq_true, decide_eq_true_eq] at h
      obtain ⟨⟨⟨⟨rfl, h2⟩, h3⟩, h4⟩, h5⟩ := h
      have q := mt_ok a X sp _ g nd.1 h3
      have q2 := mt_ok b X sp _ g nd.2.1 h4
      have q3 := mt_ok c X sp _ g nd.2.2 h5
      exact ⟨si_range3 (glB_ok g.sc h2).1 (gl_free g (n := "range") (by decide)) q.e q2.e q3.e q.ok q2.ok q3.ok, rfl⟩
    · cases h
  | .rev a, X, sp, tg, e, g, nd, h => by
    simp only [mtI] at h
    split at h
    · simp only [Bool.and_eq_true, decide_eq_true_eq] at h
      obtain ⟨⟨rfl, h2⟩, h3⟩ := h
      have q := mt_ok a X sp _ g nd h3
      exact ⟨si_rev (glB_ok g.sc h2).1 (gl_free g (n := "reversed") (by decide)) q.e q.ok, rfl⟩
    · cases h
  | .zip3 a b c, X, sp, tg, e, g, nd, h => by
    simp only [mtI] at h
    split at h
    · simp only [Bool.and_eq_true, decide_eq_true_eq] at h
      obtain ⟨⟨⟨⟨rfl, h2⟩, h3⟩, h4⟩, h5⟩ := h
      have q := mt_ok a X sp _ g nd.1 h3
      have q2 := mt_ok b X sp _ g nd.2.1 h4
      have q3 := mt_ok c X sp _ g nd.2.2 h5
      exact ⟨si_zip3 (glB_ok g.sc h2).1 (gl_free g (n := "zip") (by decide)) q.e q2.e q3.e q.ok q2.ok q3.ok, rfl⟩
    · cases h
  | .enumZip a b, X, sp, tg, e, g, nd, h => by
    simp only [mtI] at h
    split at h
    · simp only [Bool.and_eq_true, decide_eq_true_eq] at h
      obtain ⟨⟨⟨⟨⟨rfl, rfl⟩, h2⟩, h3⟩, h4⟩, h5⟩ := h
      have q := mt_ok a X sp _ g nd.1 h4
      have q2 := mt_ok b X sp _ g nd.2 h5
      exact ⟨si_enumZip (glB_ok g.sc h2).1 (gl_free g (n := "enumerate") (by decide)) (glB_ok g.sc h3).1 (gl_free g (n := "zip") (by decide)) q.e q2.e q.ok q2.ok, rfl⟩
    · cases h
end
end Mir

set_option Elab.async false
set_option linter.all false
set_option maxRecDepth 100000
set_option maxHeartbeats 4000000
/-! Mir, part I: the slots of a def, some of which own what stands there. -/
namespace Mir
open PySem PySem.Spec PyProof.Rows L2

mutual
theorem RepK.imm {T T' : Addr → Prop} {H : Hp} (n : NoTup T' H) : ∀ (ds : List (PyData × PyData)) (xs : List (Key × V)), Mir.imm.go (ds.map (·.2)) = true → RepK T H ds xs → RepK T' H ds xs
  | [], _, _, h => by simpa [RepK] using h
  | (kd, d) :: ds, xs, i, h => by
    obtain ⟨kk, x, r, e, e2, h1, h2⟩ := by simpa only [RepK] using h
    rw [List.map_cons, Mir.imm.go, Bool.and_eq_true] at i
    simp only [RepK]
    exact ⟨kk, x, r, e, e2, Rep.imm n d x i.1 h1, RepK.imm n ds r i.2 h2⟩
theorem RepT.imm {T T' : Addr → Prop} {H : Hp} (n : NoTup T' H) : ∀ (ds : List (PyData × PyData)) (xs : List (List Key × V)), Mir.imm.go (ds.map (·.2)) = true → RepT T H ds xs → RepT T' H ds xs
  | [], _, _, h => by simpa [RepT] using h
  | (kd, d) :: ds, xs, i, h => by
    obtain ⟨kk, x, r, e, e2, h1, h2⟩ := by simpa only [RepT] using h
    rw [List.map_cons, Mir.imm.go, Bool.and_eq_true] at i
    simp only [RepT]
    exact ⟨kk, x, r, e, e2, Rep.imm n d x i.1 h1, RepT.imm n ds r i.2 h2⟩
end
theorem Own1.imm {T T' : Addr → Prop} {H : Hp} (n : NoTup T' H) : ∀ {d : PyData} {a : Addr}, immI d = true → Own1 T H d a → Own1 T' H d a
  | .list ds, a, i, ⟨xs, e, z, r⟩ => ⟨xs, e, z, RepL.imm n ds xs i r⟩
  | .dict kvs, a, i, .inl ⟨ks, e, r⟩ => .inl ⟨ks, e, RepK.imm n _ _ i r⟩
  | .dict kvs, a, i, .inr ⟨ks, e, r⟩ => .inr ⟨ks, e, RepT.imm n _ _ i r⟩
/-- the addresses that are not to be met: the caller's, the owned ones -/
def TO (T0 : Addr → Prop) (O : Nat → Option Addr) : Addr → Prop := fun a => T0 a ∨ ∃ i, O i = some a
theorem TO.mono {T0 : Addr → Prop} {O O' : Nat → Option Addr} (h : ∀ i a, O' i = some a → O i = some a) : ∀ a, TO T0 O' a → TO T0 O a := fun a t => t.imp id fun ⟨i, q⟩ => ⟨i, h i a q⟩
section
variable {S : Type}
/-- the slots: T0 the caller's addresses, H0 the heap at the entry, O who owns what, P what is to stay -/
structure EnvO (k : SK S) (T0 : Addr → Prop) (H0 : Hp) (P : Addr → HO → Prop) (O : Nat → Option Addr) (ρ : Env) (st : S) (σ : L2.St) (H : Hp) : Prop where
  v0 : ∀ i d, ρ[i]? = some (some d) → O i = none → ∃ v, σ[i]? = some (some v) ∧ Rep (TO T0 O) H d v
  v1 : ∀ i a, O i = some a → ∃ d, ρ[i]? = some (some d) ∧ σ[i]? = some (some (.ref a)) ∧ Own1 (TO T0 O) H d a
  inj : ∀ i j a, O i = some a → O j = some a → i = j
  new : ∀ i a, O i = some a → H0 a = none
  ext : Ext k.loc H0 H
  dom0 : ∀ a, T0 a → ∃ o, H0 a = some o ∧ Mut (some o)
  loc : ∀ a, k.loc a → T0 a
  rel : k.rel st H
  ds : ∀ p, k.slot = some p → σ[p.1]? = some (some (.ref p.2))
  len : ρ.length = σ.length
  kept : ∀ a o, P a o → ¬ TO T0 O a ∧ H a = some o
variable {k : SK S} {T0 : Addr → Prop} {H0 H H' : Hp} {P : Addr → HO → Prop} {O : Nat → Option Addr} {ρ : Env} {st st' : S} {σ : L2.St}
theorem EnvO.nloc (e : EnvO k T0 H0 P O ρ st σ H) {i : Nat} {a : Addr} (h : O i = some a) : ¬ k.loc a := fun l => by
  obtain ⟨o, q, _⟩ := e.dom0 a (e.loc a l)
  rw [e.new i a h] at q; cases q
theorem EnvO.nT0 (e : EnvO k T0 H0 P O ρ st σ H) {i : Nat} {a : Addr} (h : O i = some a) : ¬ T0 a := fun l => by
  obtain ⟨o, q, _⟩ := e.dom0 a l
  rw [e.new i a h] at q; cases q
/-- some slots let go -/
theorem EnvO.drop (e : EnvO k T0 H0 P O ρ st σ H) (O' : Nat → Option Addr) (h : ∀ i, O' i = O i ∨ O' i = none) : EnvO k T0 H0 P O' ρ st σ H := by
  have sub : ∀ i a, O' i = some a → O i = some a := fun i a q => by
    rcases h i with z | z
    · rw [← z]; exact q
    · rw [z] at q; cases q
  have less : ∀ a, TO T0 O' a → TO T0 O a := TO.mono sub
  refine { e with v0 := fun i d hd ho => ?_, v1 := fun i a ho => ?_, inj := fun i j a p q => e.inj i j a (sub _ _ p) (sub _ _ q), new := fun i a p => e.new i a (sub _ _ p), kept := fun a o p => ⟨fun t => (e.kept a o p).1 (less a t), (e.kept a o p).2⟩ }
  · cases q : O i with
    | none =>
      obtain ⟨v, a, b⟩ := e.v0 i d hd q
      exact ⟨v, a, b.less less⟩
    | some a =>
      obtain ⟨d', h1, h2, h3⟩ := e.v1 i a q
      rw [hd] at h1; cases h1
      refine ⟨_, h2, h3.rep less fun t => ?_⟩
      rcases t with t | ⟨j, t⟩
      · exact e.nT0 q t
      · have := e.inj i j a q (sub _ _ t)
        subst this
        rw [ho] at t; cases t
  · obtain ⟨d, h1, h2, h3⟩ := e.v1 i a (sub _ _ ho)
    exact ⟨d, h1, h2, h3.mv (.less less) fun o q => q⟩
theorem EnvO.ok {X : Cx} (e : EnvO k T0 H0 P O ρ st σ H) : Ok X k (TO T0 O) st H := by
  refine ⟨fun a t => ?_, fun a l => .inl (e.loc a l), e.rel⟩
  rcases t with t | ⟨i, t⟩
  · by_cases l : k.loc a
    · obtain ⟨xs, q⟩ := k.there _ _ a e.rel l
      exact ⟨_, q, trivial⟩
    · obtain ⟨o, q, m⟩ := e.dom0 a t
      exact ⟨o, e.ext a o l q, m⟩
  · obtain ⟨d, _, _, h⟩ := e.v1 i a t
    exact h.there
/-- what an expression sees, the slots that it names let go -/
theorem EnvO.envR {X : Cx} (e : EnvO k T0 H0 P O ρ st σ H) {L : List Nat} (h : ∀ i ∈ L, O i = none) : EnvR X k (TO T0 O) L ρ σ H :=
  ⟨fun i hi d hd => e.v0 i d hd (h i hi), e.ds, Nat.le_of_eq e.len⟩
theorem EnvO.locT (e : EnvO k T0 H0 P O ρ st σ H) : ∀ a, k.loc a → TO T0 O a := fun a l => .inl (e.loc a l)
/-- behind an expression -/
theorem EnvO.next (e : EnvO k T0 H0 P O ρ st σ H) (x : Ext k.loc H H') (r : k.rel st' H') : EnvO k T0 H0 P O ρ st' σ H' := by
  have x' : Ext (TO T0 O) H H' := x.mono e.locT
  refine { e with v0 := fun i d hd ho => ?_, v1 := fun i a ho => ?_, ext := e.ext.trans x, rel := r, kept := fun a o p => ⟨(e.kept a o p).1, x a o (fun l => (e.kept a o p).1 (e.locT a l)) (e.kept a o p).2⟩ }
  · obtain ⟨v, h1, h2⟩ := e.v0 i d hd ho
    exact ⟨v, h1, h2.ext x'⟩
  · obtain ⟨d, h1, h2, h3⟩ := e.v1 i a ho
    exact ⟨d, h1, h2, h3.mv (.of_ext x') fun o q => x a o (e.nloc ho) q⟩
theorem EnvO.notup (e : EnvO k T0 H0 P O ρ st σ H) : NoTup (TO T0 O) H := fun a xs h t => by
  rcases t with t | ⟨i, t⟩
  · by_cases l : k.loc a
    · obtain ⟨ys, q⟩ := k.there _ _ a e.rel l
      rw [h] at q; cases q
    · obtain ⟨o, q, m⟩ := e.dom0 a t
      rw [e.ext a o l q] at h; cases h; exact m
  · obtain ⟨d, _, _, q⟩ := e.v1 i a t
    obtain ⟨o, q, m⟩ := q.there
    rw [h] at q; cases q; exact m
/-- what is owned is written -/
theorem EnvO.write (e : EnvO k T0 H0 P O ρ st σ H) {i : Nat} {a : Addr} {o : HO} {d' : PyData} (h : O i = some a) (q : Own1 (TO T0 O) (upd H a o) d' a) : EnvO k T0 H0 P O (ρ.set i (some d')) st σ (upd H a o) := by
  have hT : TO T0 O a := .inr ⟨i, h⟩
  have x : Ext (TO T0 O) H (upd H a o) := .wr hT
  have hi : i < ρ.length := by
    obtain ⟨d, h1, _⟩ := e.v1 i a h
    exact (List.getElem?_eq_some_iff.mp h1).1
  refine { e with v0 := fun j d hd ho => ?_, v1 := fun j b ho => ?_, ext := fun b u nl hb => ?_, rel := ?_, len := by rw [List.length_set]; exact e.len, kept := fun b u p => ⟨(e.kept b u p).1, ?_⟩ }
  · have hne : i ≠ j := fun z => by rw [z, ho] at h; cases h
    rw [List.getElem?_set_ne hne] at hd
    obtain ⟨v, h1, h2⟩ := e.v0 j d hd ho
    exact ⟨v, h1, h2.ext x⟩
  · by_cases z : i = j
    · subst z
      rw [h] at ho; cases ho
      obtain ⟨d, _, h2, _⟩ := e.v1 i a h
      exact ⟨d', by rw [List.getElem?_set_self hi], h2, q⟩
    · obtain ⟨d, h1, h2, h3⟩ := e.v1 j b ho
      have hb : b ≠ a := fun w => z (e.inj i j a h (by rw [← w]; exact ho))
      exact ⟨d, by rw [List.getElem?_set_ne z]; exact h1, h2, h3.mv (.of_ext x) fun u hu => by rw [upd_ne hb]; exact hu⟩
  · have hb2 : b ≠ a := fun w => by rw [w, e.new i a h] at hb; cases hb
    rw [upd_ne hb2]; exact e.ext b u nl hb
  · refine k.keep _ _ _ e.rel fun b l => upd_ne fun w => e.nloc h (by rw [← w]; exact l)
  · rw [upd_ne (fun w => (e.kept b u p).1 (by rw [w]; exact hT))]
    exact (e.kept b u p).2

/-! ### values that have come, some of which are fresh -/
structure AF (T : Addr → Prop) (H0 H : Hp) (O : Nat → Option Addr) (ds : List PyData) (vs : List V) : Prop where
  len : ds.length = vs.length
  v0 : ∀ j d, ds[j]? = some d → O j = none → ∃ v, vs[j]? = some v ∧ Rep (TO T O) H d v
  v1 : ∀ j a, O j = some a → ∃ d, ds[j]? = some d ∧ vs[j]? = some (.ref a) ∧ Own1 (TO T O) H d a
  inj : ∀ i j a, O i = some a → O j = some a → i = j
  new : ∀ j a, O j = some a → H0 a = none ∧ ¬ T a
theorem AF.plain {T : Addr → Prop} {H0 H : Hp} {ds : List PyData} {vs : List V} (r : RepL T H ds vs) : AF T H0 H (fun _ => none) ds vs :=
  { len := r.length
    v0 := fun j d hd _ => by
      obtain ⟨x, h1, h2⟩ := r.get hd
      exact ⟨x, h1, h2.less fun a t => t.elim id fun ⟨_, z⟩ => nomatch z⟩
    v1 := fun _ _ h => nomatch h
    inj := fun _ _ _ h => nomatch h
    new := fun _ _ h => nomatch h }
theorem AF.nil {T : Addr → Prop} {H0 H : Hp} : AF T H0 H (fun _ => none) [] [] := .plain .nil
def shO (o : Option Addr) (O : Nat → Option Addr) : Nat → Option Addr
  | 0 => o
  | j + 1 => O j
theorem TO.sh {T : Addr → Prop} {O : Nat → Option Addr} {a : Addr} : TO T (shO (some a) O) = TO (fun b => T b ∨ b = a) O := by
  funext b
  apply propext
  constructor
  · rintro (t | ⟨j, t⟩)
    · exact .inl (.inl t)
    · cases j with
      | zero => cases t; exact .inl (.inr rfl)
      | succ j => exact .inr ⟨j, t⟩
  · rintro ((t | rfl) | ⟨j, t⟩)
    · exact .inl t
    · exact .inr ⟨0, rfl⟩
    · exact .inr ⟨j + 1, t⟩
theorem TO.sh0 {T : Addr → Prop} {O : Nat → Option Addr} : TO T (shO none O) = TO T O := by
  funext b
  apply propext
  constructor
  · rintro (t | ⟨j, t⟩)
    · exact .inl t
    · cases j with
      | zero => cases t
      | succ j => exact .inr ⟨j, t⟩
  · rintro (t | ⟨j, t⟩)
    · exact .inl t
    · exact .inr ⟨j + 1, t⟩
/-- a fresh one ahead -/
theorem AF.consF {T : Addr → Prop} {H0 H1 H2 : Hp} {O : Nat → Option Addr} {d : PyData} {ds : List PyData} {a : Addr} {vs : List V} (h0 : H0 a = none) (hT : ¬ T a) (q : Own1 (fun b => T b ∨ b = a) H1 d a)
    (x : ∀ b o, ¬ T b → H1 b = some o → H2 b = some o) (x0 : ∀ b, H1 b = none → H0 b = none) (r : AF (fun b => T b ∨ b = a) H1 H2 O ds vs) : AF T H0 H2 (shO (some a) O) (d :: ds) (.ref a :: vs) := by
  have mv : Mv (fun b => T b ∨ b = a) (TO T (shO (some a) O)) H1 H2 := by
    rw [TO.sh]
    refine ⟨fun b o n hb t => ?_, fun b o n hb => x b o (fun t => n (.inl t)) hb⟩
    rcases t with t | ⟨j, t⟩
    · exact n t
    · rw [(r.new j b t).1] at hb; cases hb
  refine ⟨by simp [r.len], fun j e hj ho => ?_, fun j b ho => ?_, fun i j b hi hj => ?_, fun j b ho => ?_⟩
  · cases j with
    | zero => cases ho
    | succ j =>
      rw [TO.sh]
      exact r.v0 j e hj ho
  · cases j with
    | zero => cases ho; exact ⟨d, rfl, rfl, q.mv mv fun o ho => x a o hT ho⟩
    | succ j =>
      rw [TO.sh]
      exact r.v1 j b ho
  · cases i with
    | zero =>
      cases hi
      cases j with
      | zero => rfl
      | succ j => exact ((r.new j a hj).2 (.inr rfl)).elim
    | succ i =>
      cases j with
      | zero => cases hj; exact ((r.new i a hi).2 (.inr rfl)).elim
      | succ j => rw [r.inj i j b hi hj]
  · cases j with
    | zero => cases ho; exact ⟨h0, hT⟩
    | succ j => exact ⟨x0 b (r.new j b ho).1, fun t => (r.new j b ho).2 (.inl t)⟩
/-- .. any other -/
theorem AF.cons {T : Addr → Prop} {H0 H1 H2 : Hp} {O : Nat → Option Addr} {d : PyData} {ds : List PyData} {v : V} {vs : List V} (q : Rep T H1 d v)
    (x : ∀ b o, ¬ T b → H1 b = some o → H2 b = some o) (x0 : ∀ b, H1 b = none → H0 b = none) (r : AF T H1 H2 O ds vs) : AF T H0 H2 (shO none O) (d :: ds) (v :: vs) := by
  have mv : Mv T (TO T (shO none O)) H1 H2 := by
    rw [TO.sh0]
    refine ⟨fun b o n hb t => ?_, x⟩
    rcases t with t | ⟨j, t⟩
    · exact n t
    · rw [(r.new j b t).1] at hb; cases hb
  refine ⟨by simp [r.len], fun j e hj ho => ?_, fun j b ho => ?_, fun i j b hi hj => ?_, fun j b ho => ?_⟩
  · cases j with
    | zero => cases hj; exact ⟨v, rfl, Rep.mv mv _ _ q⟩
    | succ j =>
      rw [TO.sh0]
      exact r.v0 j e hj ho
  · cases j with
    | zero => cases ho
    | succ j =>
      rw [TO.sh0]
      exact r.v1 j b ho
  · cases i with
    | zero => cases hi
    | succ i =>
      cases j with
      | zero => cases hj
      | succ j => rw [r.inj i j b hi hj]
  · cases j with
    | zero => cases ho
    | succ j => exact ⟨x0 b (r.new j b ho).1, (r.new j b ho).2⟩
/-- .. with more to be kept apart: what is within is immutable -/
theorem AF.imm {T T' : Addr → Prop} {H0 H : Hp} {O : Nat → Option Addr} {ds : List PyData} {vs : List V} {ks : List Bool} (r : AF T H0 H O ds vs) (n : NoTup T' H) (hk : immKs ks ds = true) (ho : ∀ j, O j ≠ none ↔ ks[j]? = some true)
    (h0 : ∀ a, T' a → T a ∨ H0 a ≠ none) : AF T' H0 H O ds vs := by
  have nt : NoTup (TO T' O) H := fun a xs h t => t.elim (n a xs h) fun ⟨j, z⟩ => by
    obtain ⟨d, _, _, q⟩ := r.v1 j a z
    obtain ⟨o, q, m⟩ := q.there
    rw [h] at q; cases q; exact m
  have im : ∀ (ks : List Bool) (ds : List PyData) (j : Nat) (d : PyData), immKs ks ds = true → ds[j]? = some d → immK (ks[j]? == some true) d = true := by
    intro ks ds
    induction ds generalizing ks with
    | nil => intro j d _ h; simp at h
    | cons e ds ih =>
      intro j d hk h
      cases ks with
      | nil =>
        rw [immKs, Bool.and_eq_true] at hk
        cases j with
        | zero => cases h; exact hk.1
        | succ j =>
          have := ih [] j d hk.2 h
          simpa using this
      | cons b ks =>
        rw [immKs, Bool.and_eq_true] at hk
        cases j with
        | zero => cases h; cases b <;> exact hk.1
        | succ j => exact ih ks j d hk.2 h
  refine ⟨r.len, fun j d hd hn => ?_, fun j a ha => ?_, r.inj, fun j a ha => ⟨(r.new j a ha).1, fun t => ?_⟩⟩
  · obtain ⟨v, h1, h2⟩ := r.v0 j d hd hn
    have := im ks ds j d hk hd
    have hk : (ks[j]? == some true) = false := by
      cases q : ks[j]? == some true with
      | false => rfl
      | true => exact ((ho j).mpr (by simpa using q) hn).elim
    rw [hk] at this
    exact ⟨v, h1, Rep.imm nt d v this h2⟩
  · obtain ⟨d, h1, h2, h3⟩ := r.v1 j a ha
    have := im ks ds j d hk h1
    rw [(ho j).mp (by rw [ha]; exact fun z => nomatch z)] at this
    exact ⟨d, h1, h2, h3.imm nt this⟩
  · rcases h0 a t with z | z
    · exact (r.new j a ha).2 z
    · exact z (r.new j a ha).1

/-! ### values are put into slots -/
theorem setAll_len : ∀ {is : List Nat} {ds : List PyData} {ρ : Env}, (setAll is ds ρ).length = ρ.length
  | [], _, _ => rfl
  | i :: is, [], _ => rfl
  | i :: is, d :: ds, ρ => by
    show (setAll is ds (ρ.set i (some d))).length = _
    rw [setAll_len, List.length_set]
theorem setAllS_len : ∀ {is : List Nat} {ds : List V} {ρ : L2.St}, (setAllS is ds ρ).length = ρ.length
  | [], _, _ => rfl
  | i :: is, [], _ => rfl
  | i :: is, d :: ds, ρ => by
    show (setAllS is ds (ρ.set i (some d))).length = _
    rw [setAllS_len, List.length_set]
theorem setAll_ne : ∀ {is : List Nat} {ds : List PyData} {ρ : Env} {i : Nat}, i ∉ is → (setAll is ds ρ)[i]? = ρ[i]?
  | [], _, _, _, _ => rfl
  | i :: is, [], _, _, _ => rfl
  | i :: is, d :: ds, ρ, j, h => by
    rw [List.mem_cons, not_or] at h
    show (setAll is ds (ρ.set i (some d)))[j]? = _
    rw [setAll_ne h.2, List.getElem?_set_ne (Ne.symm h.1)]
theorem setAllS_ne : ∀ {is : List Nat} {ds : List V} {ρ : L2.St} {i : Nat}, i ∉ is → (setAllS is ds ρ)[i]? = ρ[i]?
  | [], _, _, _, _ => rfl
  | i :: is, [], _, _, _ => rfl
  | i :: is, d :: ds, ρ, j, h => by
    rw [List.mem_cons, not_or] at h
    show (setAllS is ds (ρ.set i (some d)))[j]? = _
    rw [setAllS_ne h.2, List.getElem?_set_ne (Ne.symm h.1)]
theorem setAll_at : ∀ {is : List Nat} {ds : List PyData} {ρ : Env} {i j : Nat} {d : PyData}, is.Nodup → is[j]? = some i → ds[j]? = some d → i < ρ.length → (setAll is ds ρ)[i]? = some (some d)
  | [], _, _, _, _, _, _, h, _, _ => by simp at h
  | i :: is, [], _, _, _, _, _, _, h, _ => by simp at h
  | i :: is, e :: ds, ρ, i', 0, d, nd, h1, h2, hl => by
    cases h1
    cases h2
    rw [List.nodup_cons] at nd
    show (setAll is ds (ρ.set i (some e)))[i]? = _
    rw [setAll_ne nd.1, List.getElem?_set_self hl]
  | i :: is, e :: ds, ρ, i', j + 1, d, nd, h1, h2, hl => by
    rw [List.nodup_cons] at nd
    show (setAll is ds (ρ.set i (some e)))[i']? = _
    exact setAll_at nd.2 h1 h2 (by rw [List.length_set]; exact hl)
theorem setAllS_at : ∀ {is : List Nat} {ds : List V} {ρ : L2.St} {i j : Nat} {d : V}, is.Nodup → is[j]? = some i → ds[j]? = some d → i < ρ.length → (setAllS is ds ρ)[i]? = some (some d)
  | [], _, _, _, _, _, _, h, _, _ => by simp at h
  | i :: is, [], _, _, _, _, _, _, h, _ => by simp at h
  | i :: is, e :: ds, ρ, i', 0, d, nd, h1, h2, hl => by
    cases h1
    cases h2
    rw [List.nodup_cons] at nd
    show (setAllS is ds (ρ.set i (some e)))[i]? = _
    rw [setAllS_ne nd.1, List.getElem?_set_self hl]
  | i :: is, e :: ds, ρ, i', j + 1, d, nd, h1, h2, hl => by
    rw [List.nodup_cons] at nd
    show (setAllS is ds (ρ.set i (some e)))[i']? = _
    exact setAllS_at nd.2 h1 h2 (by rw [List.length_set]; exact hl)
def putO (O : Nat → Option Addr) (is : List Nat) (Ov : Nat → Option Addr) : Nat → Option Addr := fun i => if i ∈ is then Ov (is.idxOf i) else O i
theorem putO_out {O Ov : Nat → Option Addr} {is : List Nat} {i : Nat} (h : i ∉ is) : putO O is Ov i = O i := by unfold putO; rw [if_neg h]
theorem putO_in {O Ov : Nat → Option Addr} {is : List Nat} {i j : Nat} (nd : is.Nodup) (h : is[j]? = some i) : putO O is Ov i = Ov j := by
  obtain ⟨hj, e⟩ := List.getElem?_eq_some_iff.mp h
  unfold putO
  rw [if_pos (by rw [← e]; exact List.getElem_mem hj), ← e, nd.idxOf_getElem]
theorem EnvO.commit {is : List Nat} {ds : List PyData} {vs : List V} {Ov : Nat → Option Addr} (e : EnvO k T0 H0 P O ρ st σ H) (x : Ext k.loc H H') (r : k.rel st' H') (af : AF (TO T0 O) H H' Ov ds vs) (nd : is.Nodup) (hl : is.length = ds.length) (hb : ∀ i ∈ is, i < ρ.length)
    (hs : ∀ p, k.slot = some p → p.1 ∉ is) (hO : ∀ i ∈ is, O i = none) : EnvO k T0 H0 P (putO O is Ov) (setAll is ds ρ) st' (setAllS is vs σ) H' := by
  have cs : ∀ i, (i ∉ is ∧ putO O is Ov i = O i) ∨ ∃ j d, is[j]? = some i ∧ ds[j]? = some d ∧ putO O is Ov i = Ov j := fun i => by
    by_cases h : i ∈ is
    · obtain ⟨j, hj, q⟩ := List.getElem_of_mem h
      have hj' : is[j]? = some i := by rw [List.getElem?_eq_getElem hj, q]
      exact .inr ⟨j, ds[j]'(by omega), hj', List.getElem?_eq_getElem (by omega), putO_in nd hj'⟩
    · exact .inl ⟨h, putO_out h⟩
  have hT : ∀ a, TO T0 (putO O is Ov) a → TO (TO T0 O) Ov a := fun a t => by
    rcases t with t | ⟨i, t⟩
    · exact .inl (.inl t)
    · rcases cs i with ⟨_, q⟩ | ⟨j, d, _, _, q⟩
      · exact .inl (.inr ⟨i, by rw [← q]; exact t⟩)
      · exact .inr ⟨j, by rw [← q]; exact t⟩
  have hN : ∀ a o, H a = some o → TO T0 (putO O is Ov) a → TO T0 O a := fun a o h t => by
    rcases hT a t with t | ⟨j, t⟩
    · exact t
    · rw [(af.new j a t).1] at h; cases h
  have x' : ∀ a o, ¬ TO T0 O a → H a = some o → H' a = some o := fun a o n h => x a o (fun l => n (e.locT a l)) h
  have mv : Mv (TO T0 O) (TO T0 (putO O is Ov)) H H' := ⟨fun a o n h t => n (hN a o h t), x'⟩
  refine { v0 := fun i d hd ho => ?_, v1 := fun i a ho => ?_, inj := fun i j a hi hj => ?_, new := fun i a hi => ?_, ext := e.ext.trans x, dom0 := e.dom0, loc := e.loc, rel := r, ds := fun p hp => ?_, len := by rw [setAll_len, setAllS_len]; exact e.len, kept := fun a o p => ⟨fun t => (e.kept a o p).1 (hN a o (e.kept a o p).2 t), x' a o (e.kept a o p).1 (e.kept a o p).2⟩ }
  · rcases cs i with ⟨hi, q⟩ | ⟨j, d', hj, hdj, q⟩
    · rw [setAll_ne hi] at hd
      rw [setAllS_ne hi]
      rw [q] at ho
      obtain ⟨v, h1, h2⟩ := e.v0 i d hd ho
      exact ⟨v, h1, Rep.mv mv _ _ h2⟩
    · have hi : i ∈ is := List.mem_of_getElem? hj
      rw [setAll_at nd hj hdj (hb i hi)] at hd
      cases hd
      rw [q] at ho
      obtain ⟨v, h1, h2⟩ := af.v0 j _ hdj ho
      exact ⟨v, setAllS_at nd hj h1 (by rw [← e.len]; exact hb i hi), h2.less hT⟩
  · rcases cs i with ⟨hi, q⟩ | ⟨j, d', hj, hdj, q⟩
    · rw [q] at ho
      rw [setAll_ne hi, setAllS_ne hi]
      obtain ⟨d, h1, h2, h3⟩ := e.v1 i a ho
      exact ⟨d, h1, h2, h3.mv mv fun o h => x a o (e.nloc ho) h⟩
    · have hi : i ∈ is := List.mem_of_getElem? hj
      rw [q] at ho
      obtain ⟨d, h1, h2, h3⟩ := af.v1 j a ho
      exact ⟨d, setAll_at nd hj h1 (hb i hi), setAllS_at nd hj h2 (by rw [← e.len]; exact hb i hi), h3.mv (.less hT) fun o h => h⟩
  · rcases cs i with ⟨_, q⟩ | ⟨i', _, hi', _, q⟩ <;> rcases cs j with ⟨_, q2⟩ | ⟨j', _, hj', _, q2⟩ <;> rw [q] at hi <;> rw [q2] at hj
    · exact e.inj i j a hi hj
    · obtain ⟨d, _, _, z⟩ := e.v1 i a hi
      obtain ⟨o, z, _⟩ := z.there
      rw [(af.new j' a hj).1] at z; cases z
    · obtain ⟨d, _, _, z⟩ := e.v1 j a hj
      obtain ⟨o, z, _⟩ := z.there
      rw [(af.new i' a hi).1] at z; cases z
    · have := af.inj i' j' a hi hj
      subst this
      rw [hi'] at hj'; cases hj'; rfl
  · rcases cs i with ⟨_, q⟩ | ⟨j, _, _, _, q⟩ <;> rw [q] at hi
    · exact e.new i a hi
    · have z := (af.new j a hi).1
      cases w : H0 a with
      | none => rfl
      | some o =>
        by_cases l : k.loc a
        · obtain ⟨xs, w2⟩ := k.there _ _ a e.rel l
          rw [z] at w2; cases w2
        · rw [e.ext a o l w] at z; cases z
  · rw [setAllS_ne (hs p hp)]
    exact e.ds p hp
end
end Mir

set_option Elab.async false
set_option linter.all false
set_option maxRecDepth 100000
set_option maxHeartbeats 4000000
/-! Mir, part J: fresh values, values on the way to their slots. -/
namespace Mir
open PySem PySem.Spec PyProof.Rows L2

def rBltF (X : Cx) (f : B) : List V → Hp → VK → Prop := fun vs H Q => ∃ T ds d, Dom T H ∧ RepL T H ds vs ∧ bltD f ds = .ok d ∧ AnsF T d Q H
theorem bltF_list {X : Cx} : CallR X (.type "list") (rBltF X .list_) := by
  intro pins s σ H vs us Q I r h
  obtain ⟨T, ds, d, dm, hr, hd, a⟩ := h
  obtain ⟨x, rfl, hd⟩ := one_ok hd
  obtain ⟨v, rfl, hx⟩ := hr.one
  obtain ⟨xs, h1, h2⟩ := bind_ok hd
  cases h2
  obtain ⟨p, ws, rfl, n, c, z, rr⟩ := itemsR_rep h1 hx
  rcases c with ⟨rfl, hp⟩ | ⟨rfl, hp⟩
  · exact call_list_of pins s σ H _ us Q I r ⟨p, ws, rfl, .inl (.of hp), a.lst rr z⟩
  · exact call_list_of pins s σ H _ us Q I r ⟨p, ws, rfl, .inr (.of hp), a.lst rr z⟩
theorem bltF_sorted {X : Cx} (hc : X.calm = true) (hu : X.A.units + 100 < cLine) : CallR X (.builtin "sorted") (rBltF X .sorted) := by
  intro pins s σ H vs us Q I r h
  obtain ⟨T, ds, d, dm, hr, hd, a⟩ := h
  obtain ⟨x, rfl, hd⟩ := one_ok hd
  obtain ⟨v, rfl, hx⟩ := hr.one
  have hd : sortedD x = .ok d := hd
  unfold sortedD at hd
  split at hd
  · rename_i xs _ _
    split at hd
    · rename_i hz
      cases hd
      obtain ⟨al, so⟩ := sortable_iff hz
      obtain ⟨q1, q2, q3⟩ := alikes_iff al
      obtain ⟨p, ws, e, n, hp, z, rr⟩ := hx.list_inv
      subst e
      obtain ⟨u, rfl, ru⟩ := vals1 r
      obtain rfl : u = .ref p := ru
      obtain ⟨its, rv, pl, _⟩ := I.list (.of hp)
      obtain ⟨e1, e2⟩ := each_of I q1 rr rv
      refine W.sorted_data (enc := id) pl.isList e1 e2 (by simpa using q3) (by simpa using so) (by rw [rr.length]; exact z) (fun b hb => ?_) fun out ho ho2 => ?_
      · have := (okD_iff (q1 b hb)).2
        show X.A.units + 2 + b.depth < cLine
        omega
      · obtain ⟨ws', a1, a2⟩ := of_each ho2
        obtain ⟨ep, he'⟩ := PyProof.Rows.sortedAll_at s.heap its out.toArray
        have hlen : ws'.length ≤ sizeLine := by rw [← a2.length, List.length_mergeSort, rr.length]; exact z
        refine ⟨.ref _, upd H (s.heap.objs.size + 1) (.lst ws'), I.laid (t' := s.toks) (fun _ _ => PyProof.Rows.sortedAll_old) (Nat.le_succ _) ⟨hlen, out, ep, a1, he'⟩, rfl, ?_⟩
        exact a.lst a2 hlen _ (I.hok.fresh (Nat.le_succ _))
    · cases hd
  · rename_i kvs
    split at hd
    · rename_i ns hn
      split at hd
      · rename_i hz
        cases hd
        obtain ⟨p, e, n, hp⟩ := hx.dict_inv
        subst e
        rcases hp with ⟨ks, hp, rr⟩ | ⟨ks, hp, rr⟩
        · refine call_sortedDw hc pins s σ H _ us Q I r ⟨p, ks, ns, rfl, hp, kInts rr hn, hz.2, fun ys q pm pw hq => ?_⟩
          rw [merge_uniq pm pw] at a
          exact a.lst (repL_intsM ys) (by rw [List.length_map, pm.length_eq, sizeLine_eq]; omega) q hq
        · rw [noTup rr hn] at hz; exact absurd hz.1 (by decide)
      · cases hd
    · cases hd
  · cases hd
section
variable {S : Type} {X : Cx} {k : SK S} {T T' : Addr → Prop} {σ : L2.St} {H H' : Hp} {ρ : Env} {st : S} {W : WX} {c : E S} {e : Expr} {pos : Pos}
def SF (X : Cx) (k : SK S) (c : E S) (e : Expr) : Prop := ∀ (T : Addr → Prop) (ρ : Env) (st : S) (σ : L2.St) (H : Hp) (Q : VK) (W : WX),
  EnvR X k T (fv c) ρ σ H → Ok X k T st H → Takes X W → PostF X k T σ H (ev c ρ st) Q W → wE X e σ H Q
theorem SF.se (h : SF X k c e) : SE X k c e := fun T ρ st σ H Q W n o t p => h T ρ st σ H Q W n o t p.f
theorem SA.thenF {es : List Expr} {cs : Es S} (h : SA X k cs es) {g : List PyData → M S PyData} {Q : List V → Hp → Prop} {Q' : VK} (n : EnvR X k T (fvs cs) ρ σ H) (o : Ok X k T st H) (t : Takes X W) (p : PostF X k T σ H (bnd (evs cs ρ) g st) Q' W)
    (q : ∀ d st' v H', RepL T H' d v → Ext k.loc H H' → Ok X k T st' H' → PostF X k T σ H' (g d st') Q' W → Q v H') : wA X es σ H Q := by
  refine h T ρ st σ H Q W n o t ?_
  unfold bnd R.bind at p
  unfold PostA
  cases hr : evs cs ρ st with
  | ok a =>
    obtain ⟨d, st'⟩ := a
    rw [hr] at p
    exact fun v H' r e k' => q d st' v H' r e (o.next e k') (PostF.from (o.x0 e k') e p)
  | exc x l => rw [hr] at p; exact p
  | bad => rw [hr] at p; exact p
theorem sf_lst {es : List Expr} {r : Es S} (hr : SA X k r es) : SF X k (.lst r) (.List es pos) := fun T ρ st σ H Q W n o t p => by
  refine (pe_lst pa_w).w ?_
  refine hr.thenF n o t p fun ds st1 vs H1 r1 e1 o1 p1 => ?_
  split at p1
  · rename_i z
    have z' : vs.length ≤ sizeLine := by rw [← r1.length]; exact z
    exact ⟨z', fun q hq => p1 q _ hq (o1.none hq) ⟨vs, upd_same, z', RepL.mv (mvP hq) _ _ r1⟩ (Ext.laid hq) (o1.relNo (Ext.laid hq))⟩
  · exact p1.elim
theorem sf_dict0 : SF X k .dict0 (.Dict [] [] pos) := fun T ρ st σ H Q W n o t p =>
  pe_dnewK.w fun q hq => p q _ hq (o.none hq) (.inl ⟨[], upd_same, by simp [RepK]⟩) (Ext.laid hq) (o.relNo (Ext.laid hq))
theorem bltF_end {f : B} {es : List Expr} {r : Es S} (ha : SA X k r es) {Q : VK} (n : EnvR X k T (fvs r) ρ σ H) (o : Ok X k T st H) (t : Takes X W) (p : PostF X k T σ H (bnd (evs r ρ) (fun xs => lft (bltD f xs)) st) Q W) : wA X es σ H fun vs H1 => rBltF X f vs H1 Q := by
  refine ha.thenF n o t p fun ds st1 vs H1 r1 e1 o1 p1 => ?_
  obtain ⟨d, hd, q⟩ := p1.there o1 fun n l => bltD_nx
  exact ⟨T, ds, d, o1.dom', r1, hd, q⟩
def freshB : B → Bool
  | .list_ => true
  | .sorted => true
  | _ => false
theorem sf_blt {f : B} {nm : String} {ty : Bool} {es : List Expr} {e : Expr} {pn : Pos} {r : Es S} (hc : X.calm = true) (w : X.A.units + 200 < cLine) (hff : freshB f = true) (hf : bltName f = some (nm, ty)) (hg : Gl X (Str.ofString nm)) (hm : X.mg (Str.ofString nm) = none) (ha : SA X k r (e :: es)) (hk : (e :: es).all okE = true) :
    SF X k (.blt f r) (.Call (.Name (Str.ofString nm) pn) (e :: es) [] pos) := fun T ρ st σ H Q W n o t p => by
  rw [List.all_cons, Bool.and_eq_true] at hk
  have h1 : starEach (e :: es) X.env = (false, eval e X.env) :: starEach es X.env := star_cons hk.1 _ _
  have h2 : (backTo pos (starEach es X.env)).any (·.1) = false := back_ok _ _ hk.2
  have fin := bltF_end (f := f) ha n o t p
  cases f with
  | sorted => cases hf; exact (pe_callB (bltF_sorted hc (by omega)) hg hm (by decide +kernel) pa_w (by decide) (by decide) h1 h2).w fin
  | list_ => cases hf; exact (pe_callTy bltF_list hg hm (by decide +kernel) pa_w (by decide) (by decide) h1 h2).w fin
  | _ => cases hff

/-! ### several values -/
def PostAF (X : Cx) (k : SK S) (T : Addr → Prop) (σ : L2.St) (H : Hp) (ks : List Bool) (r : R (List PyData × S)) (Q : List V → Hp → Prop) (W : WX) : Prop := match r with
  | .ok (ds, st) => ∀ vs H' O, AF T H H' O ds vs → (∀ j, O j ≠ none ↔ ks[j]? = some true) → Ext k.loc H H' → k.rel st H' → Q vs H'
  | .exc x l => ∀ cls dx H', XcIs X.mg x l cls dx H' → Ext k.loc H H' → W cls dx σ H'
  | .bad => False
def SAF (X : Cx) (k : SK S) (ks : List Bool) (c : Es S) (es : List Expr) : Prop := ∀ (T : Addr → Prop) (ρ : Env) (st : S) (σ : L2.St) (H : Hp) (Q : List V → Hp → Prop) (W : WX),
  EnvR X k T (fvs c) ρ σ H → Ok X k T st H → Takes X W → PostAF X k T σ H ks (evs c ρ st) Q W → wA X es σ H Q
theorem saf_nil : SAF X k [] .nil [] := fun T ρ st σ H Q W n o t p => pa_nil.w (p [] H (fun _ => none) .nil (fun j => by simp) .refl o.rel)
theorem saf_cons {ks : List Bool} {r : Es S} {es : List Expr} (he : SE X k c e) (hr : SAF X k ks r es) (ho : okE e = true) : SAF X k (false :: ks) (.cons c r) (e :: es) := fun T ρ st σ H Q W n o t p => by
  refine (pa_cons pe_w pa_w (star_cons ho _ _)).w ?_
  have p : PostAF X k T σ H (false :: ks) (bnd (ev c ρ) (fun x => bnd (evs r ρ) fun xs => ret (x :: xs)) st) Q W := p
  refine he T ρ st σ H _ W n.left o t ?_
  unfold bnd R.bind at p
  unfold PostE
  cases hr1 : ev c ρ st with
  | exc x l => rw [hr1] at p; exact p
  | bad => rw [hr1] at p; exact p
  | ok a =>
    obtain ⟨d, st1⟩ := a
    rw [hr1] at p
    refine fun v H1 rv e1 rel1 => ?_
    have o1 := o.next e1 rel1
    refine hr T ρ st1 σ H1 _ W (n.right.next (o.extT e1)) o1 t ?_
    unfold PostAF
    simp only at p
    cases hr2 : evs r ρ st1 with
    | exc x l => rw [hr2] at p; exact fun cls dx H' hx e2 => p cls dx H' hx (e1.trans e2)
    | bad => rw [hr2] at p; exact p
    | ok b =>
      obtain ⟨ds, st2⟩ := b
      rw [hr2] at p
      refine fun vs H2 O af hO e2 rel2 => p _ H2 (shO none O) (af.cons rv (fun b u nT hb => e2 b u (fun l => nT (o.loc b l)) hb) (o.x0 e1 rel1)) (fun j => ?_) (e1.trans e2) rel2
      cases j with
      | zero => simp [shO]
      | succ j => simpa [shO] using hO j
theorem saf_consF {ks : List Bool} {r : Es S} {es : List Expr} (he : SF X k c e) (hr : SAF X k ks r es) (ho : okE e = true) : SAF X k (true :: ks) (.cons c r) (e :: es) := fun T ρ st σ H Q W n o t p => by
  refine (pa_cons pe_w pa_w (star_cons ho _ _)).w ?_
  have p : PostAF X k T σ H (true :: ks) (bnd (ev c ρ) (fun x => bnd (evs r ρ) fun xs => ret (x :: xs)) st) Q W := p
  refine he T ρ st σ H _ W n.left o t ?_
  unfold bnd R.bind at p
  unfold PostF
  cases hr1 : ev c ρ st with
  | exc x l => rw [hr1] at p; exact p
  | bad => rw [hr1] at p; exact p
  | ok a =>
    obtain ⟨d, st1⟩ := a
    rw [hr1] at p
    refine fun a H1 ha nT q e1 rel1 => ?_
    have o1 := o.next e1 rel1
    have mv : Mv T (fun b => T b ∨ b = a) H H1 := ⟨fun b u n hb t => t.elim n fun z => (by rw [z, ha] at hb; cases hb), fun b u n hb => e1 b u (fun l => n (o.loc b l)) hb⟩
    have o2 : Ok X k (fun b => T b ∨ b = a) st1 H1 := ⟨fun b t => t.elim (o1.dom b) fun z => (by subst z; exact q.there), fun b l => .inl (o.loc b l), rel1⟩
    refine hr _ ρ st1 σ H1 _ W (n.right.mv mv) o2 t ?_
    unfold PostAF
    simp only at p
    cases hr2 : evs r ρ st1 with
    | exc x l => rw [hr2] at p; exact fun cls dx H' hx e2 => p cls dx H' hx (e1.trans e2)
    | bad => rw [hr2] at p; exact p
    | ok b =>
      obtain ⟨ds, st2⟩ := b
      rw [hr2] at p
      refine fun vs H2 O af hO e2 rel2 => p _ H2 (shO (some a) O) (af.consF ha nT q (fun b u nT hb => e2 b u (fun l => nT (o.loc b l)) hb) (o.x0 e1 rel1)) (fun j => ?_) (e1.trans e2) rel2
      cases j with
      | zero => simp [shO]
      | succ j => simpa [shO] using hO j
theorem AF.less {T T' : Addr → Prop} {H0 H : Hp} {O : Nat → Option Addr} {ds : List PyData} {vs : List V} (r : AF T H0 H O ds vs) (h : ∀ a, T' a → T a) : AF T' H0 H O ds vs := by
  have h' : ∀ a, TO T' O a → TO T O a := fun a t => t.imp (h a) id
  refine ⟨r.len, fun j d hd ho => ?_, fun j a ho => ?_, r.inj, fun j a ho => ⟨(r.new j a ho).1, fun t => (r.new j a ho).2 (h a t)⟩⟩
  · obtain ⟨v, a, b⟩ := r.v0 j d hd ho
    exact ⟨v, a, b.less h'⟩
  · obtain ⟨d, a, b, c⟩ := r.v1 j a ho
    exact ⟨d, a, b, c.mv (.less h') fun _ h => h⟩
end
/-- the slots let go -/
def dropL (L : List Nat) (O : Nat → Option Addr) : Nat → Option Addr := fun j => if j ∈ L then none else O j
theorem dropL_or {L : List Nat} {O : Nat → Option Addr} (i : Nat) : dropL L O i = O i ∨ dropL L O i = none := by
  unfold dropL
  by_cases h : i ∈ L
  · rw [if_pos h]; exact .inr rfl
  · rw [if_neg h]; exact .inl rfl
theorem dropL_in {L : List Nat} {O : Nat → Option Addr} : ∀ i ∈ L, dropL L O i = none := fun i h => by unfold dropL; rw [if_pos h]
theorem dropL_out {L : List Nat} {O : Nat → Option Addr} {i : Nat} (h : i ∉ L) : dropL L O i = O i := by unfold dropL; rw [if_neg h]
/-- who owns behind values that were put -/
def lvKs : List Nat → List Bool → List Nat
  | i :: is, true :: ks => i :: lvKs is ks
  | _ :: is, false :: ks => lvKs is ks
  | _, _ => []
def lvPut (im : Bool) (L is : List Nat) (ks : List Bool) (lv : List Nat) : List Nat := lvKs is ks ++ lv.filter fun j => !is.contains j && (im || !L.contains j)
theorem lvKs_in : ∀ {is : List Nat} {ks : List Bool} {i : Nat}, i ∈ lvKs is ks → ∃ j : Nat, is[j]? = some i ∧ ks[j]? = some true
  | [], _, _, h => by simp [lvKs] at h
  | _ :: _, [], _, h => by simp [lvKs] at h
  | i :: is, true :: ks, j, h => by
    rw [lvKs, List.mem_cons] at h
    rcases h with rfl | h
    · exact ⟨0, rfl, rfl⟩
    · obtain ⟨n, a, b⟩ := lvKs_in h
      exact ⟨n + 1, a, b⟩
  | i :: is, false :: ks, j, h => by
    rw [lvKs] at h
    obtain ⟨n, a, b⟩ := lvKs_in h
    exact ⟨n + 1, a, b⟩
section
variable {S : Type} {k : SK S} {T0 : Addr → Prop} {H0 H H' : Hp} {P : Addr → HO → Prop} {O : Nat → Option Addr} {ρ : Env} {st st' : S} {σ : L2.St}
/-- values are put into their slots: who owns then -/
theorem EnvO.put {L is : List Nat} {ks : List Bool} {im : Bool} {ds : List PyData} {vs : List V} {Ov : Nat → Option Addr} {lv : List Nat} (e : EnvO k T0 H0 P O ρ st σ H) (hlv : ∀ i ∈ lv, O i ≠ none) (x : Ext k.loc H H') (r : k.rel st' H')
    (af : AF (TO T0 (dropL L O)) H H' Ov ds vs) (hO : ∀ j, Ov j ≠ none ↔ ks[j]? = some true) (him : im = false ∨ immKs ks ds = true) (nd : is.Nodup) (hl : is.length = ds.length) (hb : ∀ i ∈ is, i < ρ.length) (hs : ∀ p, k.slot = some p → p.1 ∉ is) :
    ∃ O', (∀ i ∈ lvPut im L is ks lv, O' i ≠ none) ∧ EnvO k T0 H0 P O' (setAll is ds ρ) st' (setAllS is vs σ) H' := by
  let O3 : Nat → Option Addr := if im = true then dropL is O else dropL is (dropL L O)
  have h3 : ∀ i, O3 i = O i ∨ O3 i = none := fun i => by
    show (if im = true then dropL is O else dropL is (dropL L O)) i = _ ∨ _
    cases im with
    | true => exact dropL_or i
    | false =>
      show dropL is (dropL L O) i = O i ∨ dropL is (dropL L O) i = none
      rcases dropL_or (L := is) (O := dropL L O) i with z | z
      · rw [z]; exact dropL_or i
      · exact .inr z
  have e3 := e.drop O3 h3
  have n3 : ∀ i ∈ is, O3 i = none := fun i hi => by
    show (if im = true then dropL is O else dropL is (dropL L O)) i = none
    cases im <;> exact dropL_in i hi
  have af3 : AF (TO T0 O3) H H' Ov ds vs := by
    rcases him with rfl | him
    · refine af.less (TO.mono fun i a h => ?_)
      have h : dropL is (dropL L O) i = some a := h
      rcases dropL_or (L := is) (O := dropL L O) i with z | z
      · rw [← z]; exact h
      · rw [z] at h; cases h
    · refine af.imm (e3.next x r).notup him hO fun a t => ?_
      rcases t with t | ⟨i, t⟩
      · exact .inl (.inl t)
      · right
        rcases h3 i with z | z
        · rw [z] at t
          obtain ⟨d, _, _, q⟩ := e.v1 i a t
          obtain ⟨o, q, _⟩ := q.there
          rw [q]; exact fun z => nomatch z
        · rw [z] at t; cases t
  refine ⟨putO O3 is Ov, fun i hi => ?_, e3.commit x r af3 nd hl hb hs n3⟩
  rw [lvPut, List.mem_append] at hi
  rcases hi with hi | hi
  · obtain ⟨j, h1, h2⟩ := lvKs_in hi
    rw [putO_in nd h1]
    exact (hO j).mpr h2
  · simp only [List.mem_filter, Bool.and_eq_true, Bool.or_eq_true, Bool.not_eq_true', List.contains_iff_mem] at hi
    obtain ⟨h1, h2, h4⟩ := hi
    have hi : i ∉ is := fun z => by
      rw [List.contains_iff_mem.mpr z] at h2; cases h2
    rw [putO_out hi]
    show (if im = true then dropL is O else dropL is (dropL L O)) i ≠ none
    cases im with
    | true => rw [if_pos rfl, dropL_out hi]; exact hlv i h1
    | false =>
      have hi2 : i ∉ L := fun z => by
        rcases h4 with h4 | h4
        · cases h4
        · rw [List.contains_iff_mem.mpr z] at h4; cases h4
      rw [if_neg (by decide), dropL_out hi, dropL_out hi2]; exact hlv i h1
end
end Mir

set_option Elab.async false
set_option linter.all false
set_option maxRecDepth 100000
set_option maxHeartbeats 4000000
/-! Mir, part K: statements. -/
namespace Mir
open PySem PySem.Spec PyProof.Rows L2

section
variable {X : Cx} {pins : List (Addr × Obj)} {σ : L2.St} {H : Hp} {s : Shared} {a : Addr}
theorem dK_dT (I : Inv X pins σ H s) (h : H a = some (.dK [])) : Inv X pins σ (upd H a (.dT [])) s := by
  have q := I.hok a _ h
  obtain ⟨z, hd, vs, rel, dd⟩ := q
  cases rel
  obtain ⟨o, es, ep, h1, h2, h3, _, h4, _⟩ := dd
  refine I.write (x := a) (e := a) (by rw [h]; trivial) (.inl rfl) (fun b u _ q => q) ⟨_, h1⟩ ⟨Nat.zero_le _, hd, [], .nil, o, es, ep, h1, h2, h3, ?_, by simp⟩
  generalize es.toList = l at h4
  cases h4
  rfl
theorem dT_dK (I : Inv X pins σ H s) (h : H a = some (.dT [])) : Inv X pins σ (upd H a (.dK [])) s := by
  obtain ⟨hd, dd⟩ := dT_nil_K I (.inl h)
  have dd' := dd
  obtain ⟨o, es, ep, h1, _⟩ := dd'
  exact I.write (x := a) (e := a) (by rw [h]; trivial) (.inl rfl) (fun b u _ q => q) ⟨_, h1⟩ ⟨Nat.zero_le _, hd, [], .nil, dd⟩
/-- a name whose dict, an empty one, is taken as one of the other kind -/
def tVarR (i : Nat) : TE := fun σ H Q => ∃ v, σ[i]? = some (some v) ∧ (Q v H ∨ ∃ a, v = .ref a ∧ ((H a = some (.dK []) ∧ Q v (upd H a (.dT []))) ∨ (H a = some (.dT []) ∧ Q v (upd H a (.dK [])))))
theorem pe_varR {i : Nat} {x : Str} {pos : Pos} (hN : X.N[i]? = some x) (hv : Vis X.env.scope x) (hd : (x == ("__debug__" : Str)) = false) (hcd : (x == ("__classdict__" : Str)) = false) : PE X (.Name x pos) (tVarR i) := ⟨fun pins s σ H Q I h => by
  obtain ⟨v, e, h⟩ := h
  rcases h with h | ⟨a, rfl, ⟨ha, h⟩ | ⟨ha, h⟩⟩
  · exact (pe_var hN hv hd hcd).run pins s σ H Q I ⟨v, e, h⟩
  · exact (pe_var hN hv hd hcd).run pins s σ _ Q (dK_dT I ha) ⟨_, e, h⟩
  · exact (pe_var hN hv hd hcd).run pins s σ _ Q (dT_dK I ha) ⟨_, e, h⟩⟩
end

/-! ### readings -/
def wS (X : Cx) (st : Stmt) : TS := fun D σ H => ∀ (pins : List (Addr × Obj)) (s : Shared), Inv X pins σ H s → wpAny (model X.prog X.w) X.A (exec st X.env) (SP X pins D) X.xe s
def wSs (X : Cx) (st : List Stmt) : TS := fun D σ H => ∀ (pins : List (Addr × Obj)) (s : Shared), Inv X pins σ H s → wpAny (model X.prog X.w) X.A (execs st X.env) (SP X pins D) X.xe s
theorem ps_w {X : Cx} {st : Stmt} : PS X st (wS X st) := ⟨fun pins s σ H D I h => h pins s I⟩
theorem pss_w {X : Cx} {st : List Stmt} : PSs X st (wSs X st) := ⟨fun pins s σ H D I h => h pins s I⟩
theorem _root_.L2.PS.w {X : Cx} {st : Stmt} {t : TS} {D : Ends} {σ : L2.St} {H : Hp} (h : PS X st t) (q : t D σ H) : wS X st D σ H := fun pins s I => h.run pins s σ H D I q
theorem _root_.L2.PSs.w {X : Cx} {st : List Stmt} {t : TS} {D : Ends} {σ : L2.St} {H : Hp} (h : PSs X st t) (q : t D σ H) : wSs X st D σ H := fun pins s I => h.run pins s σ H D I q
theorem wS.at {X : Cx} {st : Stmt} {D : Ends} {σ : L2.St} {H : Hp} (h : ∀ pins s, Inv X pins σ H s → wS X st D σ H) : wS X st D σ H := fun pins s I => h pins s I pins s I

section
variable {S : Type}
def PostS (X : Cx) (k : SK S) (T0 : Addr → Prop) (H0 : Hp) (P : Addr → HO → Prop) (lv : Option (List Nat)) (ll : List Nat) (r : R (Fl × S)) (D : Ends) (W : WX) : Prop := match r with
  | .ok (.nx ρ, st) => ∀ l, lv = some l → ∀ σ H O, (∀ i ∈ l, O i ≠ none) → EnvO k T0 H0 P O ρ st σ H → D.nx σ H
  | .ok (.brk ρ, st) => ∀ σ H O, (∀ i ∈ ll, O i ≠ none) → EnvO k T0 H0 P O ρ st σ H → D.bk σ H
  | .ok (.cnt ρ, st) => ∀ σ H O, (∀ i ∈ ll, O i ≠ none) → EnvO k T0 H0 P O ρ st σ H → D.ct σ H
  | .ok (.ret d, st) => ∀ v H, Rep T0 H d v → Ext k.loc H0 H → k.rel st H → D.rt v H
  | .exc x l => ∀ cls dx σ H, XcIs X.mg x l cls dx H → Ext k.loc H0 H → W cls dx σ H
  | .bad => False
/-- c is s: who owns ahead (lv), at the loop's ends (ll), behind (lv') -/
def SS (X : Cx) (k : SK S) (lv ll : List Nat) (c : St S) (s : Stmt) (lv' : Option (List Nat)) : Prop := ∀ (T0 : Addr → Prop) (H0 : Hp) (P : Addr → HO → Prop) (O : Nat → Option Addr) (ρ : Env) (st : S) (σ : L2.St) (H : Hp) (D : Ends) (W : WX),
  (∀ i ∈ lv, O i ≠ none) → EnvO k T0 H0 P O ρ st σ H → Takes X W → PostS X k T0 H0 P lv' ll (run c ρ st) D W → wS X s D σ H
def SSs (X : Cx) (k : SK S) (lv ll : List Nat) (c : Sts S) (s : List Stmt) (lv' : Option (List Nat)) : Prop := ∀ (T0 : Addr → Prop) (H0 : Hp) (P : Addr → HO → Prop) (O : Nat → Option Addr) (ρ : Env) (st : S) (σ : L2.St) (H : Hp) (D : Ends) (W : WX),
  (∀ i ∈ lv, O i ≠ none) → EnvO k T0 H0 P O ρ st σ H → Takes X W → PostS X k T0 H0 P lv' ll (runs c ρ st) D W → wSs X s D σ H
variable {X : Cx} {k : SK S} {lv ll : List Nat} {pos : Pos} {e : Expr} {c : E S}
theorem PostS.weak {T0 : Addr → Prop} {H0 : Hp} {P : Addr → HO → Prop} {lv lv' : Option (List Nat)} {r : R (Fl × S)} {D : Ends} {W : WX} (h : PostS X k T0 H0 P lv ll r D W) (z : ∀ l, lv' = some l → ∃ l', lv = some l' ∧ ∀ i ∈ l', i ∈ l) : PostS X k T0 H0 P lv' ll r D W := by
  unfold PostS at h ⊢
  match r, h with
  | .ok (.nx ρ, st), h => exact fun l hl σ H O hO en => let ⟨l', a, b⟩ := z l hl; h l' a σ H O (fun i hi => hO i (b i hi)) en
  | .ok (.brk ρ, st), h => exact h
  | .ok (.cnt ρ, st), h => exact h
  | .ok (.ret d, st), h => exact h
  | .exc x l, h => exact h
  | .bad, h => exact h
theorem EnvO.weakP {T0 : Addr → Prop} {H0 : Hp} {P P' : Addr → HO → Prop} {O : Nat → Option Addr} {ρ : Env} {st : S} {σ : L2.St} {H : Hp} (en : EnvO k T0 H0 P O ρ st σ H) (h : ∀ a o, P' a o → P a o) : EnvO k T0 H0 P' O ρ st σ H := { en with kept := fun a o p => en.kept a o (h a o p) }

/-! ### values into slots -/
def SVs (X : Cx) (k : SK S) (L is : List Nat) (ks : List Bool) (m : Env → M S (List PyData)) (s : Stmt) : Prop := ∀ (T : Addr → Prop) (ρ : Env) (st : S) (σ : L2.St) (H : Hp) (D : Ends) (W : WX),
  EnvR X k T L ρ σ H → Ok X k T st H → Takes X W → PostAF X k T σ H ks (m ρ st) (fun vs H' => vs.length = is.length → D.nx (setAllS is vs σ) H') W → wS X s D σ H
theorem ss_put {L is : List Nat} {ks : List Bool} {im : Bool} {m : Env → M S (List PyData)} {s : Stmt} {cs : St S} (hv : SVs X k L is ks m s) (nd : is.Nodup) (hb : ∀ i ∈ is, i < X.N.length) (hs : ∀ p, k.slot = some p → p.1 ∉ is)
    (hrun : ∀ ρ st, run cs ρ st = bnd (m ρ) (fun ds => if ds.length = is.length ∧ (im = false ∨ immKs ks ds = true) then ret (.nx (setAll is ds ρ)) else lft .bad) st) : SS X k lv ll cs s (some (lvPut im L is ks lv)) := fun T0 H0 P O ρ st σ H D W hO en t p => wS.at fun pins sh I => by
  have e1 := en.drop (dropL L O) dropL_or
  refine hv _ ρ st σ H D W (e1.envR dropL_in) e1.ok t ?_
  rw [hrun] at p
  unfold bnd R.bind at p
  unfold PostAF
  cases hr : m ρ st with
  | exc x l => rw [hr] at p; exact fun cls dx H' hx x => p cls dx σ H' hx (en.ext.trans x)
  | bad => rw [hr] at p; exact p
  | ok a =>
    obtain ⟨ds, st1⟩ := a
    rw [hr] at p
    refine fun vs H' Ov af hOv x rel hlen => ?_
    simp only at p
    split at p
    · rename_i h
      obtain ⟨O', hO', en'⟩ := en.put (is := is) hO x rel af hOv h.2 nd h.1.symm (fun i hi => by rw [en.len, I.len]; exact hb i hi) hs
      exact p _ rfl _ _ O' hO' en'
    · exact p.elim
theorem sv_set {i : Nat} {x : Str} {p' : Pos} (he : SE X k c e) (nd : X.N.Nodup) (h1 : X.N[i]? = some x) (h2 : Loc X.env.scope x) (h3 : X.fn x = true) (hs : swapsWith e (some (.Name x p')) pos.line X.env = pure false) :
    SVs X k (fv c) [i] [false] (fun ρ => bnd (ev c ρ) fun d => ret [d]) (.Assign [.Name x p'] e pos) := fun T ρ st σ H D W n o t p => by
  refine (ps_set nd h1 h2 pe_w hs (.inl h3)).w ?_
  refine he T ρ st σ H _ W n o t ?_
  unfold bnd R.bind at p
  dsimp only at p
  unfold PostE
  cases hr : ev c ρ st with
  | exc x l => rw [hr] at p; exact p
  | bad => rw [hr] at p; exact p
  | ok a =>
    obtain ⟨d, st1⟩ := a
    rw [hr] at p
    exact fun v H' rv x rel => p [v] H' (fun _ => none) (.plain (.cons rv .nil)) (fun j => by cases j <;> simp) x rel rfl
theorem AF.one {T : Addr → Prop} {H0 H : Hp} {d : PyData} {a : Addr} (h0 : H0 a = none) (nT : ¬ T a) (q : Own1 (fun b => T b ∨ b = a) H d a) : AF T H0 H (shO (some a) fun _ => none) [d] [.ref a] := by
  refine ⟨rfl, fun j e hj ho => ?_, fun j b ho => ?_, fun i j b hi hj => ?_, fun j b ho => ?_⟩
  · cases j with
    | zero => cases ho
    | succ j => simp at hj
  · cases j with
    | zero =>
      cases ho
      refine ⟨d, rfl, rfl, ?_⟩
      rw [TO.sh]
      exact q.mv (.less fun b t => t.elim id fun ⟨_, z⟩ => nomatch z) fun _ h => h
    | succ j => cases ho
  · cases i with
    | zero => cases j with
      | zero => rfl
      | succ j => cases hj
    | succ i => cases hi
  · cases j with
    | zero => cases ho; exact ⟨h0, nT⟩
    | succ j => cases ho
theorem shO_one {a : Addr} (j : Nat) : shO (some a) (fun _ => none) j ≠ none ↔ [true][j]? = some true := by
  cases j with
  | zero => simp [shO]
  | succ j => simp [shO]
/-- one fresh value -/
theorem fresh_one {m : M S PyData} {T : Addr → Prop} {st : S} {σ : L2.St} {H : Hp} {Q : List V → Hp → Prop} {W : WX} (p : PostAF X k T σ H [true] (bnd m (fun d => ret [d]) st) Q W) : PostF X k T σ H (m st) (fun v H' => Q [v] H') W := by
  unfold bnd R.bind at p
  dsimp only at p
  unfold PostF
  cases hr : m st with
  | exc x l => rw [hr] at p; exact p
  | bad => rw [hr] at p; exact p
  | ok a =>
    obtain ⟨d, st1⟩ := a
    rw [hr] at p
    exact fun a H' ha nT q x rel => p [.ref a] H' _ (.one ha nT q) shO_one x rel
/-- what is fresh may stand as any other -/
theorem PostAF.plainF {m : M S PyData} {T : Addr → Prop} {st : S} {σ : L2.St} {H : Hp} {Q : List V → Hp → Prop} {W : WX} (p : PostAF X k T σ H [false] (bnd m (fun d => ret [d]) st) Q W) : PostE X k T σ H (m st) (fun v H' => Q [v] H') W := by
  unfold bnd R.bind at p
  dsimp only at p
  unfold PostE
  cases hr : m st with
  | exc x l => rw [hr] at p; exact p
  | bad => rw [hr] at p; exact p
  | ok a =>
    obtain ⟨d, st1⟩ := a
    rw [hr] at p
    exact fun v H' rv x rel => p [v] H' (fun _ => none) (.plain (.cons rv .nil)) (fun j => by cases j <;> simp) x rel
theorem one_post {own : Bool} {m : M S PyData} {T : Addr → Prop} {st : S} {σ : L2.St} {H : Hp} {Q : List V → Hp → Prop} {W : WX} (p : PostAF X k T σ H [own] (bnd m (fun d => ret [d]) st) Q W) : PostF X k T σ H (m st) (fun v H' => Q [v] H') W := by
  cases own with
  | true => exact fresh_one p
  | false => exact p.plainF.f
theorem sv_setF {i : Nat} {x : Str} {p' : Pos} {own : Bool} (he : SF X k c e) (nd : X.N.Nodup) (h1 : X.N[i]? = some x) (h2 : Loc X.env.scope x) (h3 : X.fn x = true) (hs : swapsWith e (some (.Name x p')) pos.line X.env = pure false) :
    SVs X k (fv c) [i] [own] (fun ρ => bnd (ev c ρ) fun d => ret [d]) (.Assign [.Name x p'] e pos) := fun T ρ st σ H D W n o t p => by
  refine (ps_set nd h1 h2 pe_w hs (.inl h3)).w ?_
  refine he T ρ st σ H _ W n o t ?_
  have q := one_post p
  unfold PostF at q ⊢
  match hr : ev c ρ st, q with
  | .ok (d, st'), q => exact fun a H' h1 h2 h3 h4 h5 => q a H' h1 h2 h3 h4 h5 rfl
  | .exc x l, q => exact q
  | .bad, q => exact q
theorem sv_lc {elt c : E S} {tgt : Tg} {it : Mir.It S} {own : List (Str × Nat)} {eelt etg eiter : Expr} {ifs : List Expr} {scope : Scope} {i : Nat} {y : Str} {py spos : Pos} {ow : Bool} (nd : X.N.Nodup) (hc : X.calm = true) (hi : SI X k etg it eiter) (ok : BlkOk X.N X.env.scope scope own) (hf : okE eiter = true)
    (hown : ∀ i ∈ tgs tgt, i ∈ own.map (·.2)) (hds : ∀ p, k.slot = some p → p.1 ∉ own.map (·.2))
    (ht : BlkE X scope fun X' => TgOk X' tgt etg) (hcc : BlkE X scope fun X' => (ifs = [] ∧ c = .bl true) ∨ ∃ e, ifs = [e] ∧ ST X' k c e) (he : BlkE X scope fun X' => SE X' k elt eelt)
    (hy : X.N[i]? = some y) (hyl : X.env.scope.names.lookup y = some .local) (hsw : swapsWith (.ListComp eelt [⟨etg, eiter, ifs, 0⟩] scope pos) (some (.Name y py)) spos.line X.env = pure true) :
    SVs X k (fv (.lc elt tgt it c own : E S)) [i] [ow] (fun ρ => bnd (ev (.lc elt tgt it c own) ρ) fun d => ret [d]) (.Assign [.Name y py] (.ListComp eelt [⟨etg, eiter, ifs, 0⟩] scope pos) spos) := fun T ρ st σ H D W n o t p => by
  refine (ps_setLc (g := lcG X scope etg) (tt := lcT X scope ifs) (te := lcE X scope eelt) hc nd hy hyl hsw pi_w ok lcG_ok lcT_ok lcE_ok (fold_ok hf _)).w ?_
  refine lc_read nd hc hi ok hf hown hds ht hcc he n o t ?_
  have q := one_post p
  unfold PostF at q ⊢
  match hr : ev (.lc elt tgt it c own) ρ st, q with
  | .ok (d, st'), q => exact fun a H' h1 h2 h3 h4 h5 => q a H' h1 h2 h3 h4 h5 rfl
  | .exc x l, q => exact q
  | .bad, q => exact q
/-- a, b, .. = a value -/
def tupR (n : Nat) : PyData → R (List PyData)
  | .tuple ds => if ds.length = n then .ok ds else .bad
  | _ => .bad
theorem sv_asg {is : List Nat} {es : List Expr} {j : Nat} {pt : Pos} (he : SE X k c e) (nd : X.N.Nodup) (hc : X.calm = true) (h : TgNs X is es) (hs : swapsWithSole [.Tuple es j pt] e pos.line X.env = pure false) (hw : swappedStores [.Tuple es j pt] e X.env = pure none) :
    SVs X k (fv c) is [] (fun ρ => bnd (ev c ρ) fun d => lft (tupR is.length d)) (.Assign [.Tuple es j pt] e pos) := fun T ρ st σ H D W n o t p => by
  refine (ps_asg pe_w pg_w hs hw).w ?_
  refine he T ρ st σ H _ W n o t ?_
  unfold bnd R.bind at p
  dsimp only at p
  unfold PostE
  cases hr : ev c ρ st with
  | exc x l => rw [hr] at p; exact p
  | bad => rw [hr] at p; exact p
  | ok a =>
    obtain ⟨d, st1⟩ := a
    rw [hr] at p
    refine fun v H' rv x rel => ?_
    have p : PostAF X k T σ H [] (lft (tupR is.length d) st1) (fun vs H' => vs.length = is.length → D.nx (setAllS is vs σ) H') W := p
    unfold tupR at p
    split at p
    · split at p
      · rename_i ds hl
        obtain ⟨p1, p2, p3⟩ := TgNs.pgs nd h
        obtain ⟨a, xs, rfl, _, hp, z, rr⟩ := rv.tuple_inv
        have hl' : is.length = xs.length := by rw [← rr.length]; exact hl.symm
        exact (pg_tup hc p1 p2 p3).w ⟨a, xs, rfl, .of hp, hl'.symm, gNames_ok hl' (p xs H' (fun _ => none) (.plain rr) (fun j => by simp) x rel hl'.symm)⟩
      · exact p.elim
    · exact p.elim
/-- (a, b), (c, d) = a value -/
theorem sv_asgM {ts : List TgI} {es : List Expr} {j : Nat} {pt : Pos} (he : SE X k c e) (nd : X.N.Nodup) (hc : X.calm = true) (h : TgIs X ts es) (hs : swapsWithSole [.Tuple es j pt] e pos.line X.env = pure false) (hw : swappedStores [.Tuple es j pt] e X.env = pure none) :
    SVs X k (fv c) (flatI ts) [] (fun ρ => bnd (ev c ρ) fun d => lft (mixR ts d)) (.Assign [.Tuple es j pt] e pos) := fun T ρ st σ H D W n o t p => by
  refine (ps_asg pe_w pg_w hs hw).w ?_
  refine he T ρ st σ H _ W n o t ?_
  unfold bnd R.bind at p
  dsimp only at p
  unfold PostE
  cases hr : ev c ρ st with
  | exc x l => rw [hr] at p; exact p
  | bad => rw [hr] at p; exact p
  | ok a =>
    obtain ⟨d, st1⟩ := a
    rw [hr] at p
    refine fun v H' rv x rel => ?_
    have p : PostAF X k T σ H [] (lft (mixR ts d) st1) (fun vs H' => vs.length = (flatI ts).length → D.nx (setAllS (flatI ts) vs σ) H') W := p
    unfold mixR at p
    split at p
    · rename_i ds _
      cases hm : mixD ts ds with
      | none => rw [hm] at p; exact p.elim
      | some ys =>
        rw [hm] at p
        obtain ⟨p1, p2, p3⟩ := TgIs.pgs nd hc h
        obtain ⟨a, xs, rfl, _, hp, z, rr⟩ := rv.tuple_inv
        exact (pg_tup hc p1 p2 p3).w ⟨a, xs, rfl, .of hp, by rw [← rr.length, mixD_len hm], gMix_ok hm rr fun ws hw hlw => p ws H' (fun _ => none) (.plain hw) (fun j => by simp) x rel hlw.symm⟩
    · exact p.elim
/-- a, b = x, y stored from the right -/
theorem sv_par2 {ks : List Bool} {cs : Es S} {i j : Nat} {x y : Str} {a b : Expr} {px py pt : Pos} {kt k2 : Nat} {pt2 : Pos} (ha : SAF X k ks cs [a, b]) (hn : esLen cs = 2) (nd : X.N.Nodup) (hc : X.calm = true) (hi : X.N[i]? = some x) (hj : X.N[j]? = some y) (hij : i ≠ j)
    (hx : X.env.scope.names.lookup x = some .local) (hy : X.env.scope.names.lookup y = some .local) (hw : swappedStores [.Tuple [.Name x px, .Name y py] kt pt] (.Tuple [a, b] k2 pt2) X.env = pure (some [x, y])) :
    SVs X k (fvs cs) [i, j] ks (fun ρ => evs cs ρ) (.Assign [.Tuple [.Name x px, .Name y py] kt pt] (.Tuple [a, b] k2 pt2) pos) := fun T ρ st σ H D W n o t p => by
  refine (ps_par hc nd hi hj hij hx hy pa_w hw).w ?_
  refine ha T ρ st σ H _ W n o t ?_
  unfold PostAF at p ⊢
  dsimp only at p
  cases hr : evs cs ρ st with
  | exc x l => rw [hr] at p; exact p
  | bad => rw [hr] at p; exact p
  | ok q =>
    obtain ⟨d, st'⟩ := q
    rw [hr] at p
    refine fun vs H' O af hO x rel => ?_
    have hl : vs.length = 2 := by rw [← af.len, evs_len hr, hn]
    have q := p vs H' O af hO x rel hl
    match vs, hl, q with
    | [v, w], _, q => exact ⟨v, w, rfl, q⟩
theorem sv_par3 {ks : List Bool} {cs : Es S} {i j l : Nat} {x y z : Str} {a b c : Expr} {px py pz pt : Pos} {kt k2 : Nat} {pt2 : Pos} (ha : SAF X k ks cs [a, b, c]) (hn : esLen cs = 3) (nd : X.N.Nodup) (hc : X.calm = true) (hi : X.N[i]? = some x) (hj : X.N[j]? = some y) (hk : X.N[l]? = some z) (hij : i ≠ j) (hil : i ≠ l) (hjl : j ≠ l)
    (hx : X.env.scope.names.lookup x = some .local) (hy : X.env.scope.names.lookup y = some .local) (hz : X.env.scope.names.lookup z = some .local) (hw : swappedStores [.Tuple [.Name x px, .Name y py, .Name z pz] kt pt] (.Tuple [a, b, c] k2 pt2) X.env = pure (some [x, y, z])) :
    SVs X k (fvs cs) [i, j, l] ks (fun ρ => evs cs ρ) (.Assign [.Tuple [.Name x px, .Name y py, .Name z pz] kt pt] (.Tuple [a, b, c] k2 pt2) pos) := fun T ρ st σ H D W n o t p => by
  refine (ps_par3 hc nd hi hj hk hij hil hjl hx hy hz pa_w hw).w ?_
  refine ha T ρ st σ H _ W n o t ?_
  unfold PostAF at p ⊢
  dsimp only at p
  cases hr : evs cs ρ st with
  | exc x l => rw [hr] at p; exact p
  | bad => rw [hr] at p; exact p
  | ok q =>
    obtain ⟨d, st'⟩ := q
    rw [hr] at p
    refine fun vs H' O af hO x rel => ?_
    have hl : vs.length = 3 := by rw [← af.len, evs_len hr, hn]
    have q := p vs H' O af hO x rel hl
    match vs, hl, q with
    | [u, v, w], _, q => exact ⟨u, v, w, rfl, q⟩
theorem AF.next {T : Addr → Prop} {H0 H H' : Hp} {O : Nat → Option Addr} {ds : List PyData} {vs : List V} (r : AF T H0 H O ds vs) (x : Ext NoT H H') : AF T H0 H' O ds vs :=
  ⟨r.len, fun j d hd ho => let ⟨v, a, b⟩ := r.v0 j d hd ho; ⟨v, a, b.ext (.of_no x)⟩, fun j a ho => let ⟨d, h1, h2, h3⟩ := r.v1 j a ho; ⟨d, h1, h2, h3.mv (.of_ext (.of_no x)) fun o h => x a o id h⟩, r.inj, r.new⟩
/-- .. made to a tuple first -/
theorem sv_parT {ks : List Bool} {cs : Es S} {is : List Nat} {ts es : List Expr} {pt : Pos} {kt k2 : Nat} {pt2 : Pos} (ha : SAF X k ks cs es) (hn : esLen cs = is.length) (hz : is.length ≤ sizeLine) (nd : X.N.Nodup) (hc : X.calm = true) (h : TgNs X is ts)
    (hw : swappedStores [.Tuple ts kt pt] (.Tuple es k2 pt2) X.env = pure none) :
    SVs X k (fvs cs) is ks (fun ρ => evs cs ρ) (.Assign [.Tuple ts kt pt] (.Tuple es k2 pt2) pos) := fun T ρ st σ H D W n o t p => by
  refine (ps_asg (pe_tup pa_w) pg_w rfl hw).w ?_
  refine ha T ρ st σ H _ W n o t ?_
  unfold PostAF at p ⊢
  dsimp only at p
  cases hr : evs cs ρ st with
  | exc x l => rw [hr] at p; exact p
  | bad => rw [hr] at p; exact p
  | ok q =>
    obtain ⟨d, st'⟩ := q
    rw [hr] at p
    refine fun vs H' O af hO x rel => ?_
    have hl : vs.length = is.length := by rw [← af.len, evs_len hr, hn]
    refine ⟨by rw [hl]; exact hz, fun q hq => ?_⟩
    obtain ⟨p1, p2, p3⟩ := TgNs.pgs nd h
    have o1 := o.next x rel
    refine (pg_tup hc p1 p2 p3).w ⟨q, vs, rfl, .of upd_same, hl, gNames_ok hl.symm (p vs _ O (af.next (Ext.laid hq)) hO (x.trans (Ext.laid hq)) (o1.relNo (Ext.laid hq)) hl)⟩
end
/-- how a tuple's stores go -/
def starB : Expr → Bool
  | .Starred .. => true
  | _ => false
def swpN (sp : Scope) (ts : List Expr) : List Str := ts.filterMap fun
      | .Name id pos => if sp.names.lookup id == some .local && pos.line == (ts.head?.map (·.pos.line)).getD 0 then some id else none
      | _ => none
def swp (sp : Scope) (ts vs : List Expr) : Option (Option (List Str)) :=
  bif !(ts.length == 2 || ts.length == 3) || vs.length != ts.length || (if sp.kind.isAnnotationScope then .function else sp.kind) != .function then some none
  else bif vs.any starB then some none
  else bif (swpN sp ts).length != ts.length || (swpN sp ts).eraseDups.length != (swpN sp ts).length then some none
  else bif vs.all (foldedForSure 8) then some none
  else bif vs.all (constantsAlone 8) then none
  else some (some (swpN sp ts))
theorem swp_ok {env : PySem.Env} {sp : Scope} {ts vs : List Expr} {r : Option (List Str)} {a c : Nat} {b d : Pos} (hs : env.scope = sp) (h : swp sp ts vs = some r) : swappedStores [.Tuple ts a b] (.Tuple vs c d) env = pure r := by
  subst hs
  have e : swappedStores [.Tuple ts a b] (.Tuple vs c d) env = (if (!(ts.length == 2 || ts.length == 3) || vs.length != ts.length || (if env.scope.kind.isAnnotationScope then .function else env.scope.kind) != .function) = true then pure none
    else if vs.any starB = true then pure none
    else if ((swpN env.scope ts).length != ts.length || (swpN env.scope ts).eraseDups.length != (swpN env.scope ts).length) = true then pure none
    else if vs.all (foldedForSure 8) = true then pure none
    else if vs.all (constantsAlone 8) = true then (do unsupported "assign.tuple-of-constant-expressions:order-of-the-stores"; return some (swpN env.scope ts))
    else pure (some (swpN env.scope ts))) := rfl
  rw [e]
  unfold swp at h
  revert h
  cases (!(ts.length == 2 || ts.length == 3) || vs.length != ts.length || (if env.scope.kind.isAnnotationScope then .function else env.scope.kind) != .function) with
  | true => intro h; cases h; rfl
  | false =>
    cases vs.any starB with
    | true => intro h; cases h; rfl
    | false =>
      cases ((swpN env.scope ts).length != ts.length || (swpN env.scope ts).eraseDups.length != (swpN env.scope ts).length) with
      | true => intro h; cases h; rfl
      | false =>
        cases vs.all (foldedForSure 8) with
        | true => intro h; cases h; rfl
        | false =>
          cases vs.all (constantsAlone 8) with
          | true => intro h; cases h
          | false => intro h; cases h; rfl
/-- is the comprehension stored before it ends? -/
def swB (sp : Scope) (e : Expr) (x : Str) (px : Pos) : Bool := match e with
  | .ListComp _ _ s p | .SetComp _ _ s p => (if sp.kind.isAnnotationScope then .function else sp.kind) == .function && sp.names.lookup x == some .local && px.line == p.line && !(s.names.any fun (n, k) => n == x && (k == .local || k == .cell))
  | .DictComp _ _ _ s p => (if sp.kind.isAnnotationScope then .function else sp.kind) == .function && sp.names.lookup x == some .local && px.line == p.line && !(s.names.any fun (n, k) => n == x && (k == .local || k == .cell))
  | _ => false
theorem swB_ok {env : PySem.Env} {sp : Scope} {e : Expr} {x : Str} {px : Pos} {l : Nat} (hs : env.scope = sp) : swapsWith e (some (.Name x px)) l env = pure (swB sp e x px) := by
  subst hs
  unfold swapsWith swB
  cases e <;> rfl
end Mir

set_option Elab.async false
set_option linter.all false
set_option maxRecDepth 100000
set_option maxHeartbeats 4000000
/-! Mir, part L: statements that write, branch, loop and end. -/
namespace Mir
open PySem PySem.Spec PyProof.Rows L2

/-- x op= y of numbers and texts -/
theorem ip_augD {X : Cx} (op : Operator) : PIp X op (rD2 X (augD op)) := by
  intro pins s σ H v u vv uu Q I rv ru h
  obtain ⟨T, x, y, d, dm, hx, hy, hd, a⟩ := h
  unfold augD at hd
  split at hd
  · cases hx.int_inv; cases hy.int_inv; cases hd
    exact iop_add pins s σ H _ _ vv uu Q I rv ru ⟨_, _, rfl, rfl, a _ _ .mkInt .refl⟩
  · split at hd
    · rename_i hz
      cases hd
      obtain ⟨rfl, _⟩ := hx.str_inv
      obtain ⟨rfl, _⟩ := hy.str_inv
      exact iop_add_str pins s σ H _ _ vv uu Q I rv ru ⟨_, _, rfl, rfl, hz, a _ _ (.mkStr (by rw [Str.length_append]; exact hz)) .refl⟩
    · cases hd
  · cases hx.int_inv; cases hy.int_inv; cases hd
    exact iop_sub pins s σ H _ _ vv uu Q I rv ru ⟨_, _, rfl, rfl, a _ _ .mkInt .refl⟩
  · split at hd
    · rename_i hz
      cases hx.int_inv; cases hy.int_inv; cases hd
      rw [Bool.or_eq_true] at hz
      exact iop_mul pins s σ H _ _ vv uu Q I rv ru ⟨_, _, rfl, rfl, hz.imp small_iff small_iff, a _ _ .mkInt .refl⟩
    · cases hd
  · split at hd
    · rename_i hz
      cases hx.int_inv; cases hy.int_inv; cases hd
      exact iop_fdivW pins s σ H _ _ vv uu Q I rv ru ⟨_, _, rfl, rfl, hz, a _ _ .mkInt .refl⟩
    · cases hd
  · split at hd
    · rename_i hz
      cases hx.int_inv; cases hy.int_inv; cases hd
      exact iop_mod pins s σ H _ _ vv uu Q I rv ru ⟨_, _, rfl, rfl, hz, a _ _ .mkInt .refl⟩
    · cases hd
  · cases hd
theorem augD_nx {op : Operator} {x y : PyData} {n : Str} {l : List PyData} (h : augD op x y = .exc n l) : False := by
  unfold augD at h
  split at h <;> first | (cases h; done) | (split at h <;> cases h)
theorem augD_imm {op : Operator} {x y d : PyData} (h : augD op x y = .ok d) : imm d = true := by
  unfold augD at h
  split at h <;> first | (cases h; rfl) | (cases h; done) | (split at h <;> first | (cases h; rfl) | (cases h; done))
section
variable {S : Type} {X : Cx} {k : SK S} {lv ll : List Nat} {pos : Pos} {e : Expr} {c : E S}
theorem getV_ok {ρ : Env} {i : Nat} {d : PyData} (h : getV ρ i = .ok d) : ρ[i]? = some (some d) := by
  unfold getV at h
  split at h
  · rename_i d' q; cases h; exact q
  · cases h
theorem getL_ok {ρ : Env} {i : Nat} {d : List PyData} (h : getL ρ i = .ok d) : ρ[i]? = some (some (.list d)) := by
  unfold getL at h
  split at h
  · rename_i d' q; cases h; exact q
  · cases h
/-- x.append(e) -/
theorem ss_app {i : Nat} {x : Str} {im : Bool} {p1 p2 p3 : Pos} (he : SE X k c e) (hk : okE e = true) (h1 : X.N[i]? = some x) (h2 : Vis X.env.scope x) (hd1 : (x == ("__debug__" : Str)) = false) (hd2 : (x == ("__classdict__" : Str)) = false)
    (hlv : i ∈ lv) (him : im = true ∨ i ∉ fv c) (hline : (p2.endLine == p3.line) = true) : SS X k lv ll (.app i im c) (.Expr (.Call (.Attribute (.Name x p1) "append" p2) [e] [] p3) pos) (some (lv.filter fun j => im || !(fv c).contains j)) := fun T0 H0 P O ρ st σ H D W hO en t p => by
  refine (ps_expr (pe_bm PySem.F.plainAttrs_list PySem.F.slot_list_append PySem.F.type_list_append mt_append (pe_var h1 h2 hd1 hd2) (pa_cons pe_w pa_nil (star_cons hk _ _)) rfl ?_ hline (star_cons hk _ _) rfl) rfl).w ?_
  · rw [star_cons hk]; rfl
  have hoi := hO i hlv
  cases ho : O i with
  | none => exact absurd ho hoi
  | some a =>
    obtain ⟨d0, g1, g2, g3⟩ := en.v1 i a ho
    have p : PostS X k T0 H0 P (some (lv.filter fun j => im || !(fv c).contains j)) ll (bnd (lft (getL ρ i)) (fun xs => bnd (ev c ρ) fun d => if (im = false ∨ imm d = true) ∧ xs.length < sizeLine then ret (.nx (ρ.set i (some (.list (xs ++ [d]))))) else lft .bad) st) D W := p
    cases hg : getL ρ i with
    | bad => rw [hg] at p; exact p.elim
    | exc n l => unfold getL at hg; split at hg <;> cases hg
    | ok xs =>
      have hx := getL_ok hg
      rw [g1] at hx; cases hx
      rw [hg] at p
      obtain ⟨ws, hw, z, r⟩ := g3
      refine ⟨_, g2, .inl ⟨rfl, ws, .inl (.inl hw)⟩, ?_⟩
      have e1 := en.drop (dropL (fv c) O) dropL_or
      refine he _ ρ st σ H _ W (e1.envR dropL_in) e1.ok t ?_
      rw [lft_ok, bnd_ret] at p
      unfold bnd R.bind lft at p
      dsimp only at p
      unfold PostE
      cases hr : ev c ρ st with
      | exc x l => rw [hr] at p; exact fun cls dx H' hx x => p cls dx σ H' hx (en.ext.trans x)
      | bad => rw [hr] at p; exact p
      | ok q =>
        obtain ⟨d, st1⟩ := q
        rw [hr] at p
        simp only at p
        split at p
        · rename_i hz
          intro v H' rv x rel
          let O3 : Nat → Option Addr := if im = true then O else dropL (fv c) O
          have h3 : ∀ j, O3 j = O j ∨ O3 j = none := fun j => by
            show (if im = true then O else dropL (fv c) O) j = _ ∨ _
            cases im with
            | true => exact .inl rfl
            | false => exact dropL_or j
          have o3 : O3 i = some a := by
            show (if im = true then O else dropL (fv c) O) i = _
            rcases him with rfl | him
            · exact ho
            · cases im with
              | true => exact ho
              | false => rw [if_neg (by decide), dropL_out him]; exact ho
          have e3 := (en.drop O3 h3).next x rel
          have rv3 : Rep (TO T0 O3) H' d v := by
            rcases hz.1 with rfl | hi
            · exact rv.less fun a t => t
            · exact Rep.imm e3.notup _ _ hi rv
          obtain ⟨d2, k1, k2, k3⟩ := e3.v1 i a o3
          rw [g1] at k1; cases k1
          obtain ⟨ws', hw', z', r'⟩ := k3
          have hws : ws' = ws := by
            have := x a _ (en.nloc ho) hw
            rw [hw'] at this; cases this; rfl
          subst hws
          have hlt : ws'.length < sizeLine := by rw [← r'.length]; exact hz.2
          refine ⟨a, ws', v, rfl, rfl, hw', hlt, ?_⟩
          have hT : TO T0 O3 a := .inr ⟨i, o3⟩
          refine p _ rfl _ _ O3 (fun j hj => ?_) (e3.write o3 (d' := .list (xs ++ [d])) ⟨ws' ++ [v], upd_same, by rw [List.length_append]; exact hlt, (r'.append (.cons rv3 .nil)).ext (.wr hT)⟩)
          simp only [List.mem_filter, Bool.or_eq_true, Bool.not_eq_true'] at hj
          show (if im = true then O else dropL (fv c) O) j ≠ none
          cases im with
          | true => exact hO j hj.1
          | false =>
            rw [if_neg (by decide), dropL_out fun z => ?_]
            · exact hO j hj.1
            · rcases hj.2 with h | h
              · cases h
              · rw [List.contains_iff_mem.mpr z] at h; cases h
        · exact p.elim
/-- x op= e -/
theorem ss_aug {i : Nat} {x : Str} {op : Operator} {p1 : Pos} (he : SE X k c e) (nd : X.N.Nodup) (h1 : X.N[i]? = some x) (h2 : Loc X.env.scope x) (h3 : X.fn x = true) (hs : ∀ p, k.slot = some p → p.1 ≠ i) :
    SS X k lv ll (.aug i op c) (.AugAssign (.Name x p1) op e pos) (some (lvPut true (fv c) [i] [] lv)) := fun T0 H0 P O ρ st σ H D W hO en t p => wS.at fun pins sh I => by
  refine (ps_aug nd h1 h2 pe_w (ip_augD op) (.inl h3)).w ?_
  have p : PostS X k T0 H0 P (some (lvPut true (fv c) [i] [] lv)) ll (bnd (lft (getV ρ i)) (fun x => bnd (ev c ρ) fun d => bnd (lft (augD op x d)) fun y => ret (.nx (ρ.set i (some y)))) st) D W := p
  cases hg : getV ρ i with
  | bad => rw [hg] at p; exact p.elim
  | exc n l => unfold getV at hg; split at hg <;> cases hg
  | ok x0 =>
    have hx := getV_ok hg
    rw [hg] at p
    have e1 := en.drop (dropL (i :: fv c) O) dropL_or
    obtain ⟨v0, g1, g2⟩ := e1.v0 i x0 hx (dropL_in i (by simp))
    refine ⟨v0, g1, ?_⟩
    refine he _ ρ st σ H _ W ((e1.envR dropL_in).sub fun j hj => List.mem_cons_of_mem _ hj) e1.ok t ?_
    rw [lft_ok, bnd_ret] at p
    unfold bnd R.bind lft at p
    dsimp only at p
    unfold PostE
    cases hr : ev c ρ st with
    | exc x l => rw [hr] at p; exact fun cls dx H' hx x => p cls dx σ H' hx (en.ext.trans x)
    | bad => rw [hr] at p; exact p
    | ok q =>
      obtain ⟨d, st1⟩ := q
      rw [hr] at p
      simp only at p
      intro v H' rv x rel
      cases ha : augD op x0 d with
      | exc n l => exact (augD_nx ha).elim
      | bad => rw [ha] at p; exact p.elim
      | ok y =>
        rw [ha] at p
        have e2 := e1.next x rel
        refine ⟨_, x0, d, y, (e2.ok (X := X)).dom', g2.ext (x.mono e1.locT), rv, ha, fun w H2 rw' x2 => ?_⟩
        have x2' : Ext k.loc H' H2 := .of_no x2
        have rel2 := (e2.ok (X := X)).relNo x2
        have xx := x.trans x2'
        have rw2 : Rep (TO T0 (dropL (fv c) O)) H2 y w := by
          have e4 := ((en.drop (dropL (fv c) O) dropL_or).next xx rel2)
          exact Rep.imm e4.notup _ _ (augD_imm ha) rw'
        obtain ⟨O', hO', en'⟩ := en.put (L := fv c) (is := [i]) (ks := []) (im := true) hO xx rel2 (.plain (.cons rw2 .nil)) (fun j => by simp) (.inr (by simp [immKs, augD_imm ha])) (by simp) rfl (fun j hj => by simp at hj; subst hj; rw [en.len, I.len]; exact (List.getElem?_eq_some_iff.mp h1).1) (fun p hp hm => hs p hp (by simpa using hm))
        exact p _ rfl _ _ O' hO' en'
/-- an expression -/
theorem ss_expr (he : SE X k c e) (hs : swapsWith e none pos.line X.env = pure false) : SS X k lv ll (.expr c) (.Expr e pos) (some lv) := fun T0 H0 P O ρ st σ H D W hO en t p => by
  refine (ps_expr pe_w hs).w ?_
  have e1 := en.drop (dropL (fv c) O) dropL_or
  refine he _ ρ st σ H _ W (e1.envR dropL_in) e1.ok t ?_
  have p : PostS X k T0 H0 P (some lv) ll (bnd (ev c ρ) (fun _ => ret (.nx ρ)) st) D W := p
  unfold bnd R.bind at p
  unfold PostE
  cases hr : ev c ρ st with
  | exc x l => rw [hr] at p; exact fun cls dx H' hx x => p cls dx σ H' hx (en.ext.trans x)
  | bad => rw [hr] at p; exact p
  | ok q =>
    rw [hr] at p
    exact fun v H' rv x rel => p _ rfl _ _ O hO (en.next x rel)
theorem ss_ret (he : SE X k c e) : SS X k lv ll (.ret c) (.Return (some e) pos) none := fun T0 H0 P O ρ st σ H D W hO en t p => by
  refine (ps_ret pe_w).w ?_
  have e1 := en.drop (dropL (fv c) O) dropL_or
  refine he _ ρ st σ H _ W (e1.envR dropL_in) e1.ok t ?_
  have p : PostS X k T0 H0 P none ll (bnd (ev c ρ) (fun d => ret (.ret d)) st) D W := p
  unfold bnd R.bind at p
  unfold PostE
  cases hr : ev c ρ st with
  | exc x l => rw [hr] at p; exact fun cls dx H' hx x => p cls dx σ H' hx (en.ext.trans x)
  | bad => rw [hr] at p; exact p
  | ok q =>
    rw [hr] at p
    exact fun v H' rv x rel => p v H' (rv.less fun a t => .inl t) (en.ext.trans x) rel
theorem ss_retN : SS X k lv ll .retN (.Return none pos) none := fun T0 H0 P O ρ st σ H D W hO en t p => ps_retN.w (p .non H .mkNone en.ext en.rel)
theorem ss_brk (h : ∀ i ∈ ll, i ∈ lv) : SS X k lv ll .brk (.Break pos) none := fun T0 H0 P O ρ st σ H D W hO en t p => ps_break.w (p σ H O (fun i hi => hO i (h i hi)) en)
theorem ss_cnt (h : ∀ i ∈ ll, i ∈ lv) : SS X k lv ll .cnt (.Continue pos) none := fun T0 H0 P O ρ st σ H D W hO en t p => ps_continue.w (p σ H O (fun i hi => hO i (h i hi)) en)
theorem ss_pass : SS X k lv ll .pass (.Pass pos) (some lv) := fun T0 H0 P O ρ st σ H D W hO en t p => ps_pass.w (p _ rfl σ H O hO en)
theorem ss_doc {x : Str} {j : Nat} {p2 : Pos} : SS X k lv ll .pass (.Expr (.Constant (.str x) j p2) pos) (some lv) := fun T0 H0 P O ρ st σ H D W hO en t p => ps_doc.w (p _ rfl σ H O hO en)
/-- the class x may be raised -/
def RaiseOk (G : GX) (x : Str) : Prop := ∃ (C : Addr) (bmB : List Value) (B newId initId : String), ExcBaseFacts B newId initId bmB ∧ PySem.W.excIn G.K C bmB newId = true ∧ G.mg x = some (.ref C) ∧ PySem.W.keepIn G.K (.ref C) = true ∧
  PySem.W.subIn G.K (.ref C) (.type "BaseException") = some true ∧ PySem.W.typeIn G.K (.ref C) = some (.type "type")
theorem ss_raise {x m : Str} {p1 p2 p3 : Pos} {j : Nat} (hc : X.calm = true) (hr : RaiseOk (gx X) x) (hg : Gl X x) (hdb : (x == ("__debug__" : Str)) = false) : SS X k lv ll (.raise_ x) (.Raise (some (.Call (.Name x p1) [.Constant (.str m) j p2] [] p3)) none pos) none := fun T0 H0 P O ρ st σ H D W hO en t p => by
  obtain ⟨C, bmB, B, newId, initId, F, q, gC, kC, s1, s2⟩ := hr
  exact (ps_raise hc t (pmk_own F q gC kC (raises_own s1 s2) hg hdb)).w (p (.ref C) none σ H ⟨gC, rfl, rfl⟩ en.ext)
/-! ### blocks -/
theorem sss_nil : SSs X k lv ll .nil [] (some lv) := fun T0 H0 P O ρ st σ H D W hO en t p => pss_nil.w (p _ rfl σ H O hO en)
theorem sss_cons {cs : St S} {r : Sts S} {s : Stmt} {rest : List Stmt} {lv1 lv2 : Option (List Nat)} (h : SS X k lv ll cs s lv1) (h2 : ∀ l, lv1 = some l → SSs X k l ll r rest lv2) : SSs X k lv ll (.cons cs r) (s :: rest) (if lv1.isSome then lv2 else none) := fun T0 H0 P O ρ st σ H D W hO en t p => by
  refine (pss_cons ps_w pss_w).w ?_
  refine h T0 H0 P O ρ st σ H { D with nx := fun σ' H' => wSs X rest D σ' H' } W hO en t ?_
  have p : PostS X k T0 H0 P (if lv1.isSome then lv2 else none) ll (bnd (run cs ρ) (fun fl => match fl with
    | .nx ρ' => runs r ρ'
    | .ret d => ret (.ret d)
    | .brk ρ' => ret (.brk ρ')
    | .cnt ρ' => ret (.cnt ρ')) st) D W := p
  unfold bnd R.bind at p
  cases hr : run cs ρ st with
  | exc x l => rw [hr] at p; exact p
  | bad => rw [hr] at p; exact p
  | ok q =>
    obtain ⟨fl, st1⟩ := q
    rw [hr] at p
    cases fl with
    | nx ρ' =>
      intro l hl σ' H' O' hO' en'
      subst hl
      exact h2 l rfl T0 H0 P O' ρ' st1 σ' H' D W hO' en' t p
    | ret d => exact p
    | brk ρ' => exact p
    | cnt ρ' => exact p
def meet : Option (List Nat) → Option (List Nat) → Option (List Nat)
  | none, b => b
  | a, none => a
  | some a, some b => some (a.filter b.contains)
theorem meet_l {a b : Option (List Nat)} : ∀ l, a = some l → ∃ l', meet a b = some l' ∧ ∀ i ∈ l', i ∈ l := fun l h => by
  subst h
  cases b with
  | none => exact ⟨l, rfl, fun i h => h⟩
  | some b => exact ⟨_, rfl, fun i h => (List.mem_filter.mp h).1⟩
theorem meet_r {a b : Option (List Nat)} : ∀ l, b = some l → ∃ l', meet a b = some l' ∧ ∀ i ∈ l', i ∈ l := fun l h => by
  subst h
  cases a with
  | none => exact ⟨l, rfl, fun i h => h⟩
  | some b => exact ⟨_, rfl, fun i h => by simpa using (List.mem_filter.mp h).2⟩
theorem ss_ite {a b : Sts S} {sa sb : List Stmt} {la lb : Option (List Nat)} (ht : ST X k c e) (ha : SSs X k lv ll a sa la) (hb : SSs X k lv ll b sb lb) : SS X k lv ll (.ite c a b) (.If e sa sb pos) (meet la lb) := fun T0 H0 P O ρ st σ H D W hO en t p => by
  refine (ps_if pt_w pss_w pss_w).w ?_
  have e1 := en.drop (dropL (fv c) O) dropL_or
  refine ht _ ρ st σ H _ W (e1.envR dropL_in) e1.ok t ?_
  have p : PostS X k T0 H0 P (meet la lb) ll (bnd (ev c ρ) (fun t => if truthy t = true then runs a ρ else runs b ρ) st) D W := p
  unfold bnd R.bind at p
  unfold PostT
  cases hr : ev c ρ st with
  | exc x l => rw [hr] at p; exact fun cls dx H' hx x => p cls dx σ H' hx (en.ext.trans x)
  | bad => rw [hr] at p; exact p
  | ok q =>
    obtain ⟨d, st1⟩ := q
    rw [hr] at p
    intro H' x rel
    have p : PostS X k T0 H0 P (meet la lb) ll ((if truthy d = true then runs a ρ else runs b ρ) st1) D W := p
    cases hd : truthy d with
    | true =>
      rw [hd, if_pos rfl] at p
      rw [if_pos rfl]
      exact ha T0 H0 P O ρ st1 σ H' D W hO (en.next x rel) t (p.weak meet_l)
    | false =>
      rw [hd, if_neg Bool.false_ne_true] at p
      rw [if_neg Bool.false_ne_true]
      exact hb T0 H0 P O ρ st1 σ H' D W hO (en.next x rel) t (p.weak meet_r)
/-! ### loops -/
theorem ss_while {li : List Nat} {n : Nat} {body : Sts S} {sb : List Stmt} {lb : Option (List Nat)} (hp : PassesOwn (model X.prog X.w) X.A X.env X.xe) (ht : ST X k c e) (hb : SSs X k li li body sb lb) (h1 : ∀ i ∈ li, i ∈ lv) (h2 : ∀ l, lb = some l → ∀ i ∈ li, i ∈ l) :
    SS X k lv ll (.while_ li n c body) (.While e sb [] pos) (some li) := fun T0 H0 P O ρ st σ H D W hO en t p => by
  refine (ps_while hp pt_w pss_w).w ?_
  have p : PostS X k T0 H0 P (some li) ll (whileGo (fun ρ => ev c ρ) (fun ρ => runs body ρ) n ρ st) D W := p
  refine ⟨fun m σ H => ∃ ρ st O, (∀ i ∈ li, O i ≠ none) ∧ EnvO k T0 H0 P O ρ st σ H ∧ PostS X k T0 H0 P (some li) ll (whileGo (fun ρ => ev c ρ) (fun ρ => runs body ρ) m ρ st) D W, ⟨n, ρ, st, O, fun i hi => hO i (h1 i hi), en, p⟩, ?_⟩
  clear p en hO
  rintro m σ H ⟨ρ, st, O, hO, en, p⟩
  cases m with
  | zero => exact p.elim
  | succ m =>
    have e1 := en.drop (dropL (fv c) O) dropL_or
    refine ht _ ρ st σ H _ W (e1.envR dropL_in) e1.ok t ?_
    simp only [whileGo] at p
    unfold bnd R.bind at p
    dsimp only at p
    unfold PostT
    cases hr : ev c ρ st with
    | exc x l => rw [hr] at p; exact fun cls dx H' hx x => p cls dx σ H' hx (en.ext.trans x)
    | bad => rw [hr] at p; exact p
    | ok q =>
      obtain ⟨d, st1⟩ := q
      rw [hr] at p
      intro H' x rel
      dsimp only at p
      have en1 := en.next x rel
      cases hd : truthy d with
      | false =>
        rw [hd, if_neg Bool.false_ne_true] at p
        rw [if_neg Bool.false_ne_true]
        exact p _ rfl _ _ O hO en1
      | true =>
        rw [hd, if_pos rfl] at p
        rw [if_pos rfl]
        refine ⟨fun σ' H' => ∃ ρ st O, (∀ i ∈ li, O i ≠ none) ∧ EnvO k T0 H0 P O ρ st σ' H' ∧ PostS X k T0 H0 P (some li) ll (whileGo (fun ρ => ev c ρ) (fun ρ => runs body ρ) m ρ st) D W, fun σ' H' h => ⟨m, by omega, h⟩, ?_⟩
        refine hb T0 H0 P O ρ st1 σ H' _ W hO en1 t ?_
        cases hr2 : runs body ρ st1 with
        | exc x l => rw [hr2] at p; exact p
        | bad => rw [hr2] at p; exact p
        | ok q =>
          obtain ⟨fl, st2⟩ := q
          rw [hr2] at p
          cases fl with
          | nx ρ' => exact fun l hl σ' H' O' hO' en' => ⟨ρ', st2, O', fun i hi => hO' i (h2 l hl i hi), en', p⟩
          | cnt ρ' => exact fun σ' H' O' hO' en' => ⟨ρ', st2, O', hO', en', p⟩
          | brk ρ' => exact fun σ' H' O' hO' en' => p _ rfl _ _ O' hO' en'
          | ret d => exact p
theorem for_core {li : List Nat} {tgt : Tg} {etg : Expr} {body : Sts S} {sb : List Stmt} {lb : Option (List Nat)} {T0 : Addr → Prop} {H0 : Hp} {P : Addr → HO → Prop} {O : Nat → Option Addr} {ρ : Env} {st : S} {σ : L2.St} {H : Hp} {D : Ends} {W : WX} {J : L2.It} {items : List PyData}
    (nd : X.N.Nodup) (hc : X.calm = true) (ht : TgOk X tgt etg) (hb : SSs X k li li body sb lb) (h2 : ∀ l, lb = some l → ∀ i ∈ li, i ∈ l) (h3 : ∀ i ∈ tgs tgt, i ∉ li) (hbb : ∀ i ∈ tgs tgt, i < X.N.length) (hs : ∀ p, k.slot = some p → p.1 ∉ tgs tgt) (hnd : (tgs tgt).Nodup)
    (hJ : JW (TO T0 O) items J H) (hO : ∀ i ∈ li, O i ≠ none) (en : EnvO k T0 H0 P O ρ st σ H) (t : Takes X W)
    (p : PostS X k T0 H0 P (some li) ll (forGo (fun x ρ => bnd (lft (Mir.asg tgt x ρ)) fun ρ' => runs body ρ') items ρ st) D W) :
    ∃ W : Nat → Nat → L2.St → Hp → Prop, (∃ m, W 0 m σ H) ∧ ∀ i m σ H, W i m σ H →
      (J.stop i H ∧ D.nx σ H) ∨ (J.go i H ∧ ∃ N : L2.St → Hp → Prop, (∀ σ' H', N σ' H' → ∃ m', m' < m ∧ W (i + 1) m' σ' H') ∧ ∀ x H', J.yld i H x H' → wG X etg x σ H' fun σ2 H2 => wSs X sb { D with nx := N, ct := N, bk := D.nx } σ2 H2) := by
  generalize hf : (fun (x : PyData) (ρ : Env) => bnd (lft (Mir.asg tgt x ρ)) fun ρ' => runs (S := S) body ρ') = f at p
  let P' : Addr → HO → Prop := fun a o => P a o ∨ (¬ TO T0 O a ∧ H a = some o)
  refine ⟨fun i m σ' H' => m = items.length - i ∧ i ≤ items.length ∧ ∃ ρ' st' O', (∀ i ∈ li, O' i ≠ none) ∧ EnvO k T0 H0 P' O' ρ' st' σ' H' ∧ PostS X k T0 H0 P (some li) ll (forGo f (items.drop i) ρ' st') D W,
    ⟨items.length, rfl, Nat.zero_le _, ρ, st, O, hO, { en with kept := fun a o q => q.elim (en.kept a o) id }, p⟩, ?_⟩
  rintro i m σ' H' ⟨rfl, hi, ρ', st', O', hO', en', p⟩
  have mv : Mv (TO T0 O) (TO T0 O') H H' := ⟨fun a o n h => (en'.kept a o (.inr ⟨n, h⟩)).1, fun a o n h => (en'.kept a o (.inr ⟨n, h⟩)).2⟩
  obtain ⟨jg, js⟩ := hJ i H' _ mv (en'.ok (X := X)).dom'
  by_cases hlt : i < items.length
  · obtain ⟨jgo, jy⟩ := jg hlt
    refine .inr ⟨jgo, fun σ2 H2 => i + 1 ≤ items.length ∧ ∃ ρ' st' O', (∀ i ∈ li, O' i ≠ none) ∧ EnvO k T0 H0 P' O' ρ' st' σ2 H2 ∧ PostS X k T0 H0 P (some li) ll (forGo f (items.drop (i + 1)) ρ' st') D W, fun σ2 H2 h => ⟨items.length - (i + 1), by omega, rfl, h⟩, fun x H2 hy => ?_⟩
    obtain ⟨⟨d, hd, rd⟩, e2⟩ := jy x H2 hy
    have hdrop : items.drop i = d :: items.drop (i + 1) := by
      rw [List.drop_eq_getElem_cons hlt]
      rw [List.getElem?_eq_getElem hlt] at hd
      cases hd; rfl
    rw [hdrop] at p
    have e2k : Ext k.loc H' H2 := .of_no e2
    have rel2 := (en'.ok (X := X)).relNo e2
    have p : PostS X k T0 H0 P (some li) ll ((f d ρ' st').bind fun q => (match q.1 with
      | .nx ρ' => forGo f (items.drop (i + 1)) ρ'
      | .cnt ρ' => forGo f (items.drop (i + 1)) ρ'
      | .brk ρ' => ret (.nx ρ')
      | .ret d => ret (.ret d)) q.2) D W := p
    have hfd : f d ρ' st' = bnd (lft (Mir.asg tgt d ρ')) (fun ρ' => runs (S := S) body ρ') st' := by rw [← hf]
    cases ha : Mir.asg tgt d ρ' with
    | exc x l => unfold Mir.asg at ha; split at ha <;> first | (cases ha; done) | (split at ha <;> cases ha)
    | bad => rw [hfd, ha] at p; exact p.elim
    | ok ρ2 =>
      have hfd2 : f d ρ' st' = runs (S := S) body ρ2 st' := by rw [hfd, ha]; rfl
      rw [hfd2] at p
      intro pins sh u I r
      refine sg nd hc ht ha rd (fun ds vs rv hl hρ => ?_) pins sh u I r
      have e3 := (en'.drop (dropL (tgs tgt) O') dropL_or)
      have rv3 : RepL (TO T0 (dropL (tgs tgt) O')) H2 ds vs := rv.less (TO.mono fun i a h => by
        rcases dropL_or (L := tgs tgt) (O := O') i with z | z
        · rw [← z]; exact h
        · rw [z] at h; cases h)
      have e4 := e3.commit (is := tgs tgt) e2k rel2 (.plain rv3) hnd (by rw [hl, rv.length]) (fun i hi => by rw [en'.len, I.len]; exact hbb i hi) hs dropL_in
      rw [← hρ] at e4
      have hO4 : ∀ i ∈ li, putO (dropL (tgs tgt) O') (tgs tgt) (fun _ => none) i ≠ none := fun i hi => by
        have hn : i ∉ tgs tgt := fun z => h3 i z hi
        rw [putO_out hn, dropL_out hn]
        exact hO' i hi
      refine hb T0 H0 P' _ ρ2 st' _ H2 _ W hO4 e4 t ?_
      have weak : ∀ {O ρ st σ H}, EnvO k T0 H0 P' O ρ st σ H → EnvO k T0 H0 P O ρ st σ H := fun e => e.weakP fun a o q => .inl q
      cases hr2 : runs body ρ2 st' with
      | exc x l => rw [hr2] at p; exact p
      | bad => rw [hr2] at p; exact p
      | ok q =>
        obtain ⟨fl, st2⟩ := q
        rw [hr2] at p
        cases fl with
        | nx ρ3 => exact fun l hl σ' H' O' hO' en' => ⟨hlt, ρ3, st2, O', fun i hi => hO' i (h2 l hl i hi), en', p⟩
        | cnt ρ3 => exact fun σ' H' O' hO' en' => ⟨hlt, ρ3, st2, O', hO', en', p⟩
        | brk ρ3 => exact fun σ' H' O' hO' en' => p _ rfl _ _ O' hO' (weak en')
        | ret d => exact p
  · have hi' : i = items.length := by omega
    subst hi'
    refine .inl ⟨js (Nat.le_refl _), ?_⟩
    rw [List.drop_length] at p
    exact p _ rfl _ _ O' hO' (en'.weakP fun a o q => .inl q)
end
end Mir

set_option Elab.async false
set_option linter.all false
set_option maxRecDepth 100000
set_option maxHeartbeats 4000000
/-! Mir, part M: for, x[i] = e. -/
namespace Mir
open PySem PySem.Spec PyProof.Rows L2

section
variable {S : Type} {X : Cx} {k : SK S} {lv ll : List Nat} {pos : Pos} {e : Expr} {c : E S}
theorem ss_for {li : List Nat} {tgt : Tg} {it : Mir.It S} {etg eit : Expr} {body : Sts S} {sb : List Stmt} {lb : Option (List Nat)} (hp : PassesOwn (model X.prog X.w) X.A X.env X.xe) (nd : X.N.Nodup) (hc : X.calm = true) (hi : SI X k etg it eit) (hk : okE eit = true) (ht : TgOk X tgt etg) (hb : SSs X k li li body sb lb)
    (h1 : ∀ i ∈ li, i ∈ lv ∧ i ∉ fvI it) (h2 : ∀ l, lb = some l → ∀ i ∈ li, i ∈ l) (h3 : ∀ i ∈ tgs tgt, i ∉ li) (hbb : ∀ i ∈ tgs tgt, i < X.N.length) (hs : ∀ p, k.slot = some p → p.1 ∉ tgs tgt) (hnd : (tgs tgt).Nodup) :
    SS X k lv ll (.for_ li tgt it body) (.For etg eit sb [] pos) (some li) := fun T0 H0 P O ρ st σ H D W hO en t p => by
  refine (ps_for hp hc pi_w pg_w pss_w (fold_ok hk _)).w ?_
  have e1 := en.drop (dropL (fvI it) O) dropL_or
  refine hi _ ρ st σ H _ W (e1.envR dropL_in) e1.ok t ?_
  have p : PostS X k T0 H0 P (some li) ll (bnd (evIt it ρ) (fun xs => forGo (fun x ρ => bnd (lft (Mir.asg tgt x ρ)) fun ρ' => runs body ρ') xs ρ) st) D W := p
  unfold bnd R.bind at p
  unfold PostI
  cases hr : evIt it ρ st with
  | exc x l => rw [hr] at p; exact fun cls dx H' hx x => p cls dx σ H' hx (en.ext.trans x)
  | bad => rw [hr] at p; exact p
  | ok q =>
    obtain ⟨items, st1⟩ := q
    rw [hr] at p
    exact fun J H' jw hz x rel => for_core nd hc ht hb h2 h3 hbb hs hnd jw (fun i hi => by rw [dropL_out (h1 i hi).2]; exact hO i (h1 i hi).1) (e1.next x rel) t p
/-- a range: its numbers do not lean on the heap -/
def SIr (X : Cx) (k : SK S) (tg : Expr) (c : Mir.It S) (e : Expr) : Prop := ∀ (T : Addr → Prop) (ρ : Env) (st : S) (σ : L2.St) (H : Hp) (Q : L2.It → Hp → Prop) (W : WX),
  EnvR X k T (fvI c) ρ σ H → Ok X k T st H → Takes X W → (match evIt c ρ st with
  | .ok (items, st) => ∀ J H', (∀ T, JW T items J H') → Ext k.loc H H' → k.rel st H' → Q J H'
  | .exc x l => ∀ cls dx H', XcIs X.mg x l cls dx H' → Ext k.loc H H' → W cls dx σ H'
  | .bad => False) → wI X tg e σ H Q
theorem ss_forR {li : List Nat} {tgt : Tg} {it : Mir.It S} {etg eit : Expr} {body : Sts S} {sb : List Stmt} {lb : Option (List Nat)} (hp : PassesOwn (model X.prog X.w) X.A X.env X.xe) (nd : X.N.Nodup) (hc : X.calm = true) (hi : SIr X k etg it eit) (hk : okE eit = true) (ht : TgOk X tgt etg) (hb : SSs X k li li body sb lb)
    (h1 : ∀ i ∈ li, i ∈ lv) (h2 : ∀ l, lb = some l → ∀ i ∈ li, i ∈ l) (h3 : ∀ i ∈ tgs tgt, i ∉ li) (hbb : ∀ i ∈ tgs tgt, i < X.N.length) (hs : ∀ p, k.slot = some p → p.1 ∉ tgs tgt) (hnd : (tgs tgt).Nodup) :
    SS X k lv ll (.for_ li tgt it body) (.For etg eit sb [] pos) (some li) := fun T0 H0 P O ρ st σ H D W hO en t p => by
  refine (ps_for hp hc pi_w pg_w pss_w (fold_ok hk _)).w ?_
  have e1 := en.drop (dropL (fvI it) O) dropL_or
  refine hi _ ρ st σ H _ W (e1.envR dropL_in) e1.ok t ?_
  have p : PostS X k T0 H0 P (some li) ll (bnd (evIt it ρ) (fun xs => forGo (fun x ρ => bnd (lft (Mir.asg tgt x ρ)) fun ρ' => runs body ρ') xs ρ) st) D W := p
  unfold bnd R.bind at p
  cases hr : evIt it ρ st with
  | exc x l => rw [hr] at p; exact fun cls dx H' hx x => p cls dx σ H' hx (en.ext.trans x)
  | bad => rw [hr] at p; exact p
  | ok q =>
    obtain ⟨items, st1⟩ := q
    rw [hr] at p
    exact fun J H' jw x rel => for_core nd hc ht hb h2 h3 hbb hs hnd (jw _) (fun i hi => hO i (h1 i hi)) (en.next x rel) t p
theorem sir_range1 {a : E S} {ea tg : Expr} {pn pos : Pos} (hg : Gl X "range") (hm : X.mg "range" = none) (ha : SE X k a ea) (hk : okE ea = true) : SIr X k tg (.range1 a) (.Call (.Name "range" pn) [ea] [] pos) := fun T ρ st σ H Q W n o t p => by
  refine (pi_range1 hg hm (pa_cons pe_w pa_nil (star_cons hk _ _)) (star_cons hk _ _)).w ?_
  refine ha T ρ st σ H _ W n o t ?_
  have hs : sizeLine = 16777216 := sizeLine_eq
  simp only [evIt] at p
  unfold bnd R.bind lft at p
  dsimp only at p
  unfold PostE
  cases hr : ev a ρ st with
  | exc x l => rw [hr] at p; exact p
  | bad => rw [hr] at p; exact p
  | ok q =>
    obtain ⟨d, st1⟩ := q
    rw [hr] at p
    intro v H' rv x rel
    simp only at p
    cases hi : intR d with
    | exc x l => exact (intR_nx hi).elim
    | bad => rw [hi] at p; exact p.elim
    | ok j =>
      rw [hi] at p
      simp only at p
      rw [intR_ok hi] at rv
      by_cases hb : j ≤ sizeLine ∧ -(2 ^ 62) ≤ j
      · rw [if_pos hb] at p
        exact ⟨j, by rw [rv.int_inv], hb.2, by omega, p _ H' (fun T => .range) x rel⟩
      · rw [if_neg hb] at p; exact p.elim
theorem sir_range2 {a b : E S} {ea eb tg : Expr} {pn pos : Pos} (hg : Gl X "range") (hm : X.mg "range" = none) (ha : SE X k a ea) (hb : SE X k b eb) (hk : okE ea = true) (hk2 : okE eb = true) : SIr X k tg (.range2 a b) (.Call (.Name "range" pn) [ea, eb] [] pos) := fun T ρ st σ H Q W n o t p => by
  refine (pi_range2 hg hm (pa_cons pe_w (pa_cons pe_w pa_nil (star_cons hk2 _ _)) (star_cons hk _ _)) (by rw [star_cons hk, star_cons hk2]; rfl) (star_cons hk2 _ _)).w ?_
  refine ha T ρ st σ H _ W n.left o t ?_
  have hs : sizeLine = 16777216 := sizeLine_eq
  simp only [evIt] at p
  unfold bnd R.bind lft at p
  dsimp only at p
  unfold PostE
  cases hr : ev a ρ st with
  | exc x l => rw [hr] at p; exact p
  | bad => rw [hr] at p; exact p
  | ok q =>
    obtain ⟨d, st1⟩ := q
    rw [hr] at p
    intro v H1 rv x rel
    simp only at p
    have o1 := o.next x rel
    refine hb T ρ st1 σ H1 _ W (n.right.next (o.extT x)) o1 t ?_
    unfold PostE
    cases hr2 : ev b ρ st1 with
    | exc y l => rw [hr2] at p; exact fun cls dx H' hx x2 => p cls dx H' hx (x.trans x2)
    | bad => rw [hr2] at p; exact p
    | ok q2 =>
      obtain ⟨d2, st2⟩ := q2
      rw [hr2] at p
      intro v2 H2 rv2 x2 rel2
      simp only at p
      cases hi : intR d with
      | exc x l => exact (intR_nx hi).elim
      | bad => rw [hi] at p; exact p.elim
      | ok j =>
        rw [hi] at p
        simp only at p
        rw [intR_ok hi] at rv
        cases hi2 : intR d2 with
        | exc x l => exact (intR_nx hi2).elim
        | bad => rw [hi2] at p; exact p.elim
        | ok j2 =>
          rw [hi2] at p
          simp only at p
          rw [intR_ok hi2] at rv2
          by_cases hb : -(2 ^ 62) ≤ j ∧ j < 2 ^ 62 ∧ -(2 ^ 62) ≤ j2 ∧ j2 < 2 ^ 62 ∧ (j2 - j).toNat ≤ sizeLine
          · rw [if_pos hb] at p
            refine ⟨j, j2, by rw [rv.int_inv, rv2.int_inv], ⟨hb.1, hb.2.1, hb.2.2.1, hb.2.2.2.1⟩, p _ H2 (fun T => .range) (x.trans x2) rel2⟩
          · rw [if_neg hb] at p; exact p.elim

theorem set_self {α : Type} : ∀ {l : List α} {i : Nat} {a : α}, l[i]? = some a → l.set i a = l
  | [], _, _, h => rfl
  | b :: l, 0, a, h => by cases h; rfl
  | b :: l, i + 1, a, h => by
    rw [List.set_cons_succ, set_self (by simpa using h)]
/-- x[i] = e -/
theorem ss_setItem {i : Nat} {x : Str} {im : Bool} {ci : E S} {ei : Expr} {p1 p2 : Pos} (w : X.A.units + 200 < cLine) (he : SE X k c e) (hx : SE X k ci ei) (hk : okE ei = true) (h1 : X.N[i]? = some x) (h2 : Vis X.env.scope x) (hd1 : (x == ("__debug__" : Str)) = false) (hd2 : (x == ("__classdict__" : Str)) = false)
    (hlv : i ∈ lv) (him : im = true ∨ i ∉ fv c) (hst : ∀ v, assign (.Subscript (.Name x p1) ei p2) X.env v = (do
      let ov ← holding [v] (eval (.Name x p1) X.env)
      let iv ← holding [v, ov] (eval ei X.env)
      standAt p2
      holding [v, ov, iv] (setItem ov iv v)
      release [v, ov, iv] [])) (hs : swapsWith e (some (.Subscript (.Name x p1) ei p2)) pos.line X.env = pure false) :
    SS X k lv ll (.setItem i im ci c) (.Assign [.Subscript (.Name x p1) ei p2] e pos) (some (lv.filter fun j => im || !(fv c).contains j)) := fun T0 H0 P O ρ st σ H D W hO en t p => by
  have hoi := hO i hlv
  cases ho : O i with
  | none => exact absurd ho hoi
  | some a =>
    obtain ⟨d0, g1, g2, g3⟩ := en.v1 i a ho
    have p : PostS X k T0 H0 P (some (lv.filter fun j => im || !(fv c).contains j)) ll (bnd (ev c ρ) (fun d => if im = false ∨ imm d = true then bnd (lft (getV ρ i)) fun x => bnd (ev ci ρ) fun k => bnd (lft (setItemD x k d)) fun y => ret (.nx (ρ.set i (some y))) else lft .bad) st) D W := p
    have hg : getV ρ i = .ok d0 := by unfold getV; rw [g1]
    rw [hg] at p
    -- the value
    have ph1 : ∀ Q1 : VK, (∀ v H1 st1 d O3, O3 i = some a → (∀ j ∈ lv.filter (fun j => im || !(fv c).contains j), O3 j ≠ none) → EnvO k T0 H0 P O3 ρ st1 σ H1 → Rep (TO T0 O3) H1 d v →
        PostS X k T0 H0 P (some (lv.filter fun j => im || !(fv c).contains j)) ll (bnd (ev ci ρ) (fun k => bnd (lft (setItemD d0 k d)) fun y => ret (.nx (ρ.set i (some y)))) st1) D W → Q1 v H1) → wE X e σ H Q1 := fun Q1 hQ => by
      have e1 := en.drop (dropL (fv c) O) dropL_or
      refine he _ ρ st σ H _ W (e1.envR dropL_in) e1.ok t ?_
      unfold bnd R.bind at p
      unfold PostE
      cases hr : ev c ρ st with
      | exc x l => rw [hr] at p; exact fun cls dx H' hx x => p cls dx σ H' hx (en.ext.trans x)
      | bad => rw [hr] at p; exact p
      | ok q =>
        obtain ⟨d, st1⟩ := q
        rw [hr] at p
        intro v H1 rv x1 rel1
        dsimp only at p
        by_cases hz : im = false ∨ imm d = true
        · rw [if_pos hz, lft_ok] at p
          let O3 : Nat → Option Addr := if im = true then O else dropL (fv c) O
          have h3 : ∀ j, O3 j = O j ∨ O3 j = none := fun j => by
            show (if im = true then O else dropL (fv c) O) j = _ ∨ _
            cases im with
            | true => exact .inl rfl
            | false => exact dropL_or j
          have o3 : O3 i = some a := by
            show (if im = true then O else dropL (fv c) O) i = _
            rcases him with rfl | him
            · exact ho
            · cases im with
              | true => exact ho
              | false => rw [if_neg (by decide), dropL_out him]; exact ho
          have e3 := (en.drop O3 h3).next x1 rel1
          have rv3 : Rep (TO T0 O3) H1 d v := by
            rcases hz with rfl | hi
            · exact rv.less fun a t => t
            · exact Rep.imm e3.notup _ _ hi rv
          have hl3 : ∀ j ∈ lv.filter (fun j => im || !(fv c).contains j), O3 j ≠ none := fun j hj => by
            simp only [List.mem_filter, Bool.or_eq_true, Bool.not_eq_true'] at hj
            show (if im = true then O else dropL (fv c) O) j ≠ none
            cases im with
            | true => exact hO j hj.1
            | false =>
              rw [if_neg (by decide), dropL_out fun z => ?_]
              · exact hO j hj.1
              · rcases hj.2 with h | h
                · cases h
                · rw [List.contains_iff_mem.mpr z] at h; cases h
          exact hQ v H1 st1 d O3 o3 hl3 e3 rv3 p
        · rw [if_neg hz] at p; exact p.elim
    -- the index
    have ph2 : ∀ (Q2 : VK) (v : V) (H1 : Hp) (st1 : S) (d : PyData) (O3 : Nat → Option Addr), O3 i = some a → (∀ j ∈ lv.filter (fun j => im || !(fv c).contains j), O3 j ≠ none) → EnvO k T0 H0 P O3 ρ st1 σ H1 → Rep (TO T0 O3) H1 d v →
        PostS X k T0 H0 P (some (lv.filter fun j => im || !(fv c).contains j)) ll (bnd (ev ci ρ) (fun k => bnd (lft (setItemD d0 k d)) fun y => ret (.nx (ρ.set i (some y)))) st1) D W →
        (∀ y H3 kd st2 d', ev ci ρ st1 = .ok (kd, st2) → EnvO k T0 H0 P O3 ρ st2 σ H3 → Ext (TO T0 (dropL [i] O3)) H1 H3 → H3 a = H1 a → Rep (TO T0 O3) H3 d v → Rep (TO T0 (dropL (fv ci) O3)) H3 kd y → setItemD d0 kd d = .ok d' → (∀ o, Own1 (TO T0 O3) (upd H3 a o) d' a → D.nx σ (upd H3 a o)) → Q2 y H3) → wE X ei σ H1 Q2 := fun Q2 v H1 st1 d O3 o3 hl3 e3 rv3 p hQ => by
      have e4 := e3.drop (dropL (fv ci) O3) dropL_or
      refine hx _ ρ st1 σ H1 _ W (e4.envR dropL_in) e4.ok t ?_
      unfold bnd R.bind lft at p
      dsimp only at p
      unfold PostE
      cases hr2 : ev ci ρ st1 with
      | exc x l => rw [hr2] at p; exact fun cls dx H' hx x => p cls dx σ H' hx (e3.ext.trans x)
      | bad => rw [hr2] at p; exact p
      | ok q2 =>
        obtain ⟨kd, st2⟩ := q2
        rw [hr2] at p
        intro y H3 ry x3 rel3
        dsimp only at p
        have e5 := e3.next x3 rel3
        have hA : H3 a = H1 a := by
          obtain ⟨_, _, _, q⟩ := e3.v1 i a o3
          obtain ⟨o, q, _⟩ := q.there
          rw [x3 a o (e3.nloc o3) q, q]
        cases hsd : setItemD d0 kd d with
        | exc n l => unfold setItemD at hsd; split at hsd <;> first | (cases hsd; done) | (split at hsd <;> cases hsd)
        | bad => rw [hsd] at p; exact p.elim
        | ok d' =>
          rw [hsd] at p
          exact hQ y H3 kd st2 d' hr2 e5 (x3.mono fun b l => .inl (e3.loc b l)) hA (rv3.ext (x3.mono e3.locT)) ry hsd fun o ho' => p _ rfl _ _ O3 hl3 (e5.write o3 ho')
    cases d0 with
    | list ds =>
      obtain ⟨ws, hw, z, r⟩ := g3
      refine (ps_asg pe_w (pg_sub (pe_var h1 h2 hd1 hd2) pe_w set_list hst) hs rfl).w ?_
      refine ph1 _ fun v H1 st1 d O3 o3 hl3 e3 rv3 p => ⟨_, g2, ?_⟩
      refine ph2 _ v H1 st1 d O3 o3 hl3 e3 rv3 p fun y H3 kd st2 d' hev e5 x5 hA rv5 ry hsd fin => ?_
      obtain ⟨d1, k1, k2, k3⟩ := e5.v1 i a o3
      rw [g1] at k1; cases k1
      obtain ⟨ws', hw', z', r'⟩ := k3
      cases kd with
      | int kk =>
        have hsd : (match ixN ds.length kk with | some j => R.ok (PyData.list (ds.set j d)) | none => .bad) = .ok d' := hsd
        split at hsd
        · rename_i j hj
          cases hsd
          exact ⟨a, ws', kk, j, rfl, ry.int_inv, hw', by rw [← r'.length]; exact hj, fin _ ⟨ws'.set j v, upd_same, by rw [List.length_set]; exact z', (r'.set rv5 j).ext (.wr (.inr ⟨i, o3⟩))⟩⟩
        · cases hsd
      | _ => cases hsd
    | dict kvs =>
      have hdput : ∀ (H3 : Hp) (O3 : Nat → Option Addr) (kd d d' : PyData) (v y : V), O3 i = some a → Rep (TO T0 O3) H3 d v → Rep (TO T0 (dropL (fv ci) O3)) H3 kd y → setItemD (.dict kvs) kd d = .ok d' → (∀ o, Own1 (TO T0 O3) (upd H3 a o) d' a → D.nx σ (upd H3 a o)) →
          ((isTup kd = false ∧ ∃ ks, H3 a = some (.dK ks) ∧ RepK (TO T0 O3) H3 kvs ks) ∨ (isTup kd = true ∧ ∃ ks, H3 a = some (.dT ks) ∧ RepT (TO T0 O3) H3 kvs ks)) → ∃ a' H4, V.ref a = .ref a' ∧ DPut H3 a' y v H4 ∧ D.nx σ H4 := fun H3 O3 kd d d' v y o3 rv ry hsd fin hk' => by
        have hsd : (if kindOk kvs kd = true ∧ kvs.length < sizeLine then R.ok (.dict (putD kvs kd d)) else .bad) = .ok d' := by
          cases kd <;> exact hsd
        split at hsd
        · rename_i hz
          cases hsd
          have kok : keyD kd = true := by have := hz.1; unfold kindOk at this; rw [Bool.and_eq_true] at this; exact this.1
          have hT : TO T0 O3 a := .inr ⟨i, o3⟩
          rcases hk' with ⟨it, ks, ha, r⟩ | ⟨it, ks, ha, r⟩
          · rcases keyD_rep kok ry with ⟨kk, rfl, rfl, _⟩ | ⟨kk, b, rfl, rfl, hb, it2⟩
            · refine ⟨a, _, rfl, .k ha (by rw [← r.length]; exact hz.2), fin _ (.inl ⟨_, upd_same, RepK.mv (.of_ext (.wr hT)) _ _ (r.put rv)⟩)⟩
            · rw [it] at it2; cases it2
          · rcases keyD_rep kok ry with ⟨kk, rfl, rfl, it2⟩ | ⟨kk, b, rfl, rfl, hb, _⟩
            · rw [it] at it2; cases it2
            · refine ⟨a, _, rfl, .t ha hb (by rw [← r.length]; exact hz.2), fin _ (.inr ⟨_, upd_same, RepT.mv (.of_ext (.wr hT)) _ _ (r.put rv)⟩)⟩
        · cases hsd
      refine (ps_dput (by omega) (pe_varR h1 h2 hd1 hd2) pe_w pe_w hs).w ?_
      refine ph1 _ fun v H1 st1 d O3 o3 hl3 e3 rv3 p => ⟨_, g2, ?_⟩
      obtain ⟨d1, k1, k2, k3⟩ := e3.v1 i a o3
      rw [g1] at k1; cases k1
      have hT : TO T0 O3 a := .inr ⟨i, o3⟩
      -- as it stands
      have plain : (∀ kd st2 d', ev ci ρ st1 = .ok (kd, st2) → setItemD (.dict kvs) kd d = .ok d' → (isTup kd = false ∧ ∃ ks, H1 a = some (.dK ks) ∧ RepK (TO T0 O3) H1 kvs ks) ∨ (isTup kd = true ∧ ∃ ks, H1 a = some (.dT ks) ∧ RepT (TO T0 O3) H1 kvs ks)) →
          wE X ei σ H1 fun y H3 => ∃ a' H4, V.ref a = .ref a' ∧ DPut H3 a' y v H4 ∧ D.nx σ H4 := fun hk' =>
        ph2 _ v H1 st1 d O3 o3 hl3 e3 rv3 p fun y H3 kd st2 d' hev e5 x5 hA rv5 ry hsd fin => hdput H3 O3 kd d d' v y o3 rv5 ry hsd fin (by
          have x6 : Ext (TO T0 O3) H1 H3 := x5.mono (TO.mono fun j b h => by
            rcases dropL_or (L := [i]) (O := O3) j with z | z
            · rw [← z]; exact h
            · rw [z] at h; cases h)
          rcases hk' kd st2 d' hev hsd with ⟨it, ks, ha, r⟩ | ⟨it, ks, ha, r⟩
          · exact .inl ⟨it, ks, by rw [hA]; exact ha, RepK.mv (.of_ext x6) _ _ r⟩
          · exact .inr ⟨it, ks, by rw [hA]; exact ha, RepT.mv (.of_ext x6) _ _ r⟩)
      have kOf : ∀ kd d', setItemD (.dict kvs) kd d = .ok d' → kindOk kvs kd = true := fun kd d' hsd => by
        have hsd : (if kindOk kvs kd = true ∧ kvs.length < sizeLine then R.ok (.dict (putD kvs kd d)) else .bad) = .ok d' := by
          cases kd <;> exact hsd
        split at hsd
        · rename_i hz; exact hz.1
        · cases hsd
      -- .. taken as the other kind
      have other : ∀ o, kvs = [] → Own1 (TO T0 O3) (upd H1 a o) (.dict []) a → (∀ kd st2 d', ev ci ρ st1 = .ok (kd, st2) → setItemD (.dict kvs) kd d = .ok d' → (isTup kd = false ∧ o = .dK []) ∨ (isTup kd = true ∧ o = .dT [])) →
          wE X ei σ (upd H1 a o) fun y H3 => ∃ a' H4, V.ref a = .ref a' ∧ DPut H3 a' y v H4 ∧ D.nx σ H4 := fun o hkv how hk' => by
        subst hkv
        have e3' := e3.write o3 how
        rw [set_self g1] at e3'
        exact ph2 _ v _ st1 d O3 o3 hl3 e3' (rv3.ext (.wr hT)) p fun y H3 kd st2 d' hev e5 x5 hA rv5 ry hsd fin => hdput H3 O3 kd d d' v y o3 rv5 ry hsd fin (by
          rw [upd_same] at hA
          rcases hk' kd st2 d' hev hsd with ⟨it, rfl⟩ | ⟨it, rfl⟩
          · exact .inl ⟨it, [], hA, by simp [RepK]⟩
          · exact .inr ⟨it, [], hA, by simp [RepT]⟩)
      rcases k3 with ⟨ks, ha, r⟩ | ⟨ks, ha, r⟩
      · by_cases hev : ∃ kd st2 d', ev ci ρ st1 = .ok (kd, st2) ∧ setItemD (.dict kvs) kd d = .ok d' ∧ isTup kd = true
        · obtain ⟨kd, st2, d', h1', h2', h3'⟩ := hev
          obtain ⟨rfl, rfl⟩ := r.kind (kOf kd d' h2') h3'
          refine .inr ⟨a, rfl, .inl ⟨ha, other _ rfl (.inr ⟨[], upd_same, by simp [RepT]⟩) fun kd2 st3 d2 h4 h5 => .inr ⟨?_, rfl⟩⟩⟩
          rw [h1'] at h4; cases h4; exact h3'
        · refine .inl (plain fun kd st2 d' h4 h5 => .inl ⟨?_, ks, ha, r⟩)
          cases q : isTup kd with
          | false => rfl
          | true => exact absurd ⟨kd, st2, d', h4, h5, q⟩ hev
      · by_cases hev : ∃ kd st2 d', ev ci ρ st1 = .ok (kd, st2) ∧ setItemD (.dict kvs) kd d = .ok d' ∧ isTup kd = false
        · obtain ⟨kd, st2, d', h1', h2', h3'⟩ := hev
          obtain ⟨rfl, rfl⟩ := r.kind (kOf kd d' h2') h3'
          refine .inr ⟨a, rfl, .inr ⟨ha, other _ rfl (.inl ⟨[], upd_same, by simp [RepK]⟩) fun kd2 st3 d2 h4 h5 => .inl ⟨?_, rfl⟩⟩⟩
          rw [h1'] at h4; cases h4; exact h3'
        · refine .inl (plain fun kd st2 d' h4 h5 => .inr ⟨?_, ks, ha, r⟩)
          cases q : isTup kd with
          | true => rfl
          | false => exact absurd ⟨kd, st2, d', h4, h5, q⟩ hev
    | none => exact g3.elim
    | bool _ => exact g3.elim
    | int _ => exact g3.elim
    | str _ => exact g3.elim
    | tuple _ => exact g3.elim
end
end Mir

set_option Elab.async false
set_option linter.all false
set_option maxRecDepth 100000
set_option maxHeartbeats 4000000
/-! Mir, part N: is this statement of the text that one of the language? By looking. -/
namespace Mir
open PySem PySem.Spec PyProof.Rows L2

structure LcOk (X : Cx) {S : Type} (k : SK S) (elt : E S) (tgt : Tg) (it : Mir.It S) (c : E S) (own : List (Str × Nat)) (eelt etg eiter : Expr) (ifs : List Expr) (scope : Scope) : Prop where
  hi : SI X k etg it eiter
  ok : BlkOk X.N X.env.scope scope own
  hf : okE eiter = true
  hown : ∀ i ∈ tgs tgt, i ∈ own.map (·.2)
  hds : ∀ p, k.slot = some p → p.1 ∉ own.map (·.2)
  ht : BlkE X scope fun X' => TgOk X' tgt etg
  hcc : BlkE X scope fun X' => (ifs = [] ∧ c = .bl true) ∨ ∃ e, ifs = [e] ∧ ST X' k c e
  he : BlkE X scope fun X' => SE X' k elt eelt
section
variable {S : Type} {k : SK S} {N : List Str} {ds : Option Nat}
theorem mt_lc {elt c : E S} {tgt : Tg} {it : Mir.It S} {own : List (Str × Nat)} {X : Cx} {sp : Scope} {e : Expr} (g : XG X k N ds sp) (nd : NeedE (gx X) k (.lc elt tgt it c own)) (h : mt N ds sp (.lc elt tgt it c own) e = true) :
    ∃ x tg iter ifs scope pos, e = .ListComp x [⟨tg, iter, ifs, 0⟩] scope pos ∧ LcOk X k elt tgt it c own x tg iter ifs scope := by
  simp only [mt] at h
  split at h
  · rename_i x tg iter ifs a scope pos
    simp only [Bool.and_eq_true, decide_eq_true_eq, List.all_eq_true] at h
    obtain ⟨⟨⟨⟨⟨⟨⟨rfl, h1⟩, h2⟩, h3⟩, h4⟩, h5⟩, h6⟩, h7⟩ := h
    obtain ⟨qi, oi⟩ := mtI_ok it X sp tg _ g nd.1 h1
    refine ⟨x, tg, iter, ifs, scope, pos, rfl, ⟨qi, by rw [g.n, g.sc]; exact blkOk_by h2, oi, fun i hi => by simpa using h3 i hi, fun p hp => ?_, fun s H C cl fp => tgB_of (fun i e q => tgN_blk g.n q s H C cl fp) h5, fun s H C cl fp => ?_, fun s H C cl fp => ?_⟩⟩
    · have hi : ds = some p.1 := by rw [← g.slot, hp]; rfl
      rw [hi] at h4
      simpa using h4
    · split at h6
      · split at h6
        · exact .inl ⟨rfl, rfl⟩
        · cases h6
      · exact .inr ⟨_, rfl, (mt_ok c _ _ _ (blk_g g s H C cl fp) nd.2.1 h6).t⟩
      · cases h6
    · exact (mt_ok elt _ _ _ (blk_g g s H C cl fp) nd.2.2 h7).e
  · cases h
/-- forms that make a thing anew -/
def freshE : E S → Bool
  | .lst _ => true
  | .dict0 => true
  | .blt f _ => freshB f
  | .lc .. => true
  | .op1 f _ => fr1 f
  | .dlit _ => true
  | _ => false
theorem LcOk.sf {elt c : E S} {tgt : Tg} {it : Mir.It S} {own : List (Str × Nat)} {X : Cx} {eelt etg eiter : Expr} {ifs : List Expr} {scope : Scope} {pos : Pos} (nd : X.N.Nodup) (hc : X.calm = true) (h : LcOk X k elt tgt it c own eelt etg eiter ifs scope) :
    SF X k (.lc elt tgt it c own) (.ListComp eelt [⟨etg, eiter, ifs, 0⟩] scope pos) := fun T ρ st σ H Q W n o t p =>
  (pe_lc (g := lcG X scope etg) (tt := lcT X scope ifs) (te := lcE X scope eelt) hc nd pi_w h.ok lcG_ok lcT_ok lcE_ok (fold_ok h.hf _)).w (lc_read nd hc h.hi h.ok h.hf h.hown h.hds h.ht h.hcc h.he n o t p)
theorem mt_sf {c : E S} {X : Cx} {sp : Scope} {e : Expr} (g : XG X k N ds sp) (nd : NeedE (gx X) k c) (hf : freshE c = true) (h : mt N ds sp c e = true) : SF X k c e := by
  cases c with
  | lst es =>
    simp only [mt] at h
    split at h
    · exact sf_lst (mts_ok es X sp _ g nd h).1
    · cases h
  | dict0 =>
    simp only [mt] at h
    split at h
    · exact sf_dict0
    · cases h
  | blt f es =>
    simp only [mt] at h
    split at h
    · simp only [Bool.and_eq_true, decide_eq_true_eq] at h
      obtain ⟨⟨h1, h2⟩, h3⟩ := h
      split at h1
      · rename_i n ty hb
        simp only [Bool.and_eq_true, decide_eq_true_eq] at h1
        obtain ⟨rfl, h1⟩ := h1
        obtain ⟨h4, h5⟩ := glB_ok g.sc h2
        obtain ⟨a1, a2⟩ := mts_ok es X sp _ g nd h3
        exact sf_blt g.calm g.room hf hb h4 (gl_free g h1) a1 a2
      · cases h1
    · cases h
  | lc elt tgt it c own =>
    obtain ⟨x, tg, iter, ifs, scope, pos, rfl, q⟩ := mt_lc g nd h
    exact q.sf (by rw [g.n]; exact g.nd) g.calm
  | op1 f a =>
    simp only [mt] at h
    split at h
    · rename_i x hx
      rw [Bool.and_eq_true] at h
      obtain ⟨i, p, o⟩ := m1_ok g hx h.1
      exact sf_op1 i hf (mt_ok a X sp _ g nd h.2).e
    · cases h
  | dlit es =>
    simp only [mt] at h
    split at h
    · simp only [Bool.and_eq_true, decide_eq_true_eq, Bool.not_eq_true'] at h
      obtain ⟨⟨h1, h2⟩, h3⟩ := h
      obtain ⟨q1, q2, q3⟩ := mtp_ok es X sp _ _ g nd h3
      exact fun T ρ st σ H Q W n o t p => sfx_dlit q1 q2 q3 (fun z => by rw [z] at h1; cases h1) h2 n o t p
    · cases h
  | _ => cases hf
/-- several values, some of them made anew -/
def mtA (N : List Str) (ds : Option Nat) (sc : Scope) : List Bool → Es S → List Expr → Bool
  | [], .nil, [] => true
  | b :: ks, .cons c r, e :: es => (!b || freshE c) && mt N ds sc c e && mtA N ds sc ks r es
  | _, _, _ => false
theorem mtA_ok {X : Cx} {sp : Scope} (g : XG X k N ds sp) : ∀ (ks : List Bool) (c : Es S) (es : List Expr), NeedEs (gx X) k c → mtA N ds sp ks c es = true → SAF X k ks c es
  | [], .nil, [], _, _ => saf_nil
  | b :: ks, .cons c r, e :: es, nd, h => by
    simp only [mtA, Bool.and_eq_true, Bool.or_eq_true, Bool.not_eq_true'] at h
    obtain ⟨⟨h1, h2⟩, h3⟩ := h
    have q := mt_ok c X sp e g nd.1 h2
    have r' := mtA_ok g ks r es nd.2 h3
    cases b with
    | false => exact saf_cons q.e r' q.ok
    | true => exact saf_consF (mt_sf g nd.1 (h1.elim (fun z => nomatch z) id) h2) r' q.ok
  | [], .nil, _ :: _, _, h => nomatch h
  | [], .cons _ _, _, _, h => nomatch h
  | _ :: _, .nil, _, _, h => nomatch h
  | _ :: _, .cons _ _, [], _, h => nomatch h

/-! ### statements -/
def slotB (ds : Option Nat) (is : List Nat) : Bool := match ds with
  | some p => !is.contains p
  | none => true
def subB (a b : List Nat) : Bool := a.all b.contains
def subO (a : List Nat) : Option (List Nat) → Bool
  | none => true
  | some b => subB a b
def rangeB : Mir.It S → Bool
  | .range1 _ => true
  | .range2 _ _ => true
  | _ => false
def isLc : E S → Bool
  | .lc .. => true
  | _ => false
def isTupE : Expr → Bool
  | .Tuple .. => true
  | _ => false
def compB : Expr → Bool
  | .ListComp .. => true
  | .SetComp .. => true
  | .DictComp .. => true
  | _ => false
def locN (sc : Scope) (x : Str) : Bool := decide (sc.names.lookup x = some .local)
def parB (N : List Str) (sc : Scope) (is : List Nat) (ts vs : List Expr) : Bool := match swp sc ts vs with
  | some none => tgNs N sc is ts
  | some (some names) => match is, ts with
    | [i, j], [.Name x _, .Name y _] => decide (N[i]? = some x) && decide (N[j]? = some y) && locN sc x && locN sc y && decide (names = [x, y])
    | [i, j, l], [.Name x _, .Name y _, .Name z _] => decide (N[i]? = some x) && decide (N[j]? = some y) && decide (N[l]? = some z) && locN sc x && locN sc y && locN sc z && decide (names = [x, y, z])
    | _, _ => false
  | none => false
def nodupB : List Nat → Bool
  | [] => true
  | i :: is => !is.contains i && nodupB is
theorem nodupB_ok : ∀ {is : List Nat}, nodupB is = true → is.Nodup
  | [], _ => .nil
  | i :: is, h => by
    simp only [nodupB, Bool.and_eq_true, Bool.not_eq_true'] at h
    refine List.nodup_cons.mpr ⟨fun z => ?_, nodupB_ok h.2⟩
    rw [List.contains_iff_mem.mpr z] at h
    cases h.1
/-- one of them is no name -/
def someT (es : List Expr) : Bool := es.any fun e => match e with
  | .Name _ _ => false
  | _ => true
def setB (sc : Scope) (e : Expr) (x : Str) (p : Pos) (own : Bool) (c : E S) : Bool := if swB sc e x p then isLc c && locN sc x else !own || freshE c
mutual
def chS (N : List Str) (ds : Option Nat) (sc : Scope) (lv ll : List Nat) : St S → Stmt → Option (Option (List Nat))
  | .set i own im c, s => match s with
    | .Assign [.Name x p'] e _ => if decide (N[i]? = some x) && locB sc x && slotB ds [i] && mt N ds sc c e && setB sc e x p' own c then some (some (lvPut im (fv c) [i] [own] lv)) else none
    | _ => none
  | .asg is im c, s => match s with
    | .Assign [.Tuple ts _ _] e _ => if tgNs N sc is ts && nodupB is && slotB ds is && mt N ds sc c e && !isTupE e then some (some (lvPut im (fv c) is [] lv)) else none
    | _ => none
  | .asgM ts im c, s => match s with
    | .Assign [.Tuple es _ _] e _ => if tgMix N sc ts es && nodupB (flatI ts) && slotB ds (flatI ts) && mt N ds sc c e && someT es then some (some (lvPut im (fv c) (flatI ts) [] lv)) else none
    | _ => none
  | .par is ks im cs, s => match s with
    | .Assign [.Tuple ts _ _] (.Tuple vs _ _) _ => if parB N sc is ts vs && nodupB is && slotB ds is && mtA N ds sc ks cs vs && decide (esLen cs = is.length) && decide (is.length ≤ 8) then some (some (lvPut im (fvs cs) is ks lv)) else none
    | _ => none
  | .app i im c, s => match s with
    | .Expr (.Call (.Attribute (.Name x _) nm p2) [e] [] p3) _ => if decide (nm = ("append" : Str)) && decide (N[i]? = some x) && visB sc x && plainName x && mt N ds sc c e && lv.contains i && (im || !(fv c).contains i) && (p2.endLine == p3.line) then some (some (lv.filter fun j => im || !(fv c).contains j)) else none
    | _ => none
  | .setItem i im ci c, s => match s with
    | .Assign [.Subscript (.Name x _) ei _] e _ => if decide (N[i]? = some x) && visB sc x && plainName x && mt N ds sc c e && mt N ds sc ci ei && lv.contains i && (im || !(fv c).contains i) then some (some (lv.filter fun j => im || !(fv c).contains j)) else none
    | _ => none
  | .aug i op c, s => match s with
    | .AugAssign (.Name x _) o e _ => if decide (op = o) && decide (N[i]? = some x) && locB sc x && slotB ds [i] && mt N ds sc c e then some (some (lvPut true (fv c) [i] [] lv)) else none
    | _ => none
  | .expr c, s => match s with
    | .Expr e _ => if mt N ds sc c e && !compB e then some (some lv) else none
    | _ => none
  | .ret c, s => match s with
    | .Return (some e) _ => if mt N ds sc c e then some none else none
    | _ => none
  | .retN, s => match s with
    | .Return none _ => some none
    | _ => none
  | .ite c a b, s => match s with
    | .If e sa sb _ => if mt N ds sc c e then (match chSs N ds sc lv ll a sa, chSs N ds sc lv ll b sb with
      | some la, some lb => some (meet la lb)
      | _, _ => none) else none
    | _ => none
  | .for_ li tg it body, s => match s with
    | .For etg eit sb [] _ => if mtI N ds sc it etg eit && tgB N sc tg etg && nodupB (tgs tg) && slotB ds (tgs tg) && (tgs tg).all (fun i => !li.contains i) && subB li lv && (rangeB it || li.all fun i => !(fvI it).contains i) then (match chSs N ds sc li li body sb with
      | some lb => if subO li lb then some (some li) else none
      | none => none) else none
    | _ => none
  | .while_ li _ c body, s => match s with
    | .While e sb [] _ => if mt N ds sc c e && subB li lv then (match chSs N ds sc li li body sb with
      | some lb => if subO li lb then some (some li) else none
      | none => none) else none
    | _ => none
  | .brk, s => match s with
    | .Break _ => if subB ll lv then some none else none
    | _ => none
  | .cnt, s => match s with
    | .Continue _ => if subB ll lv then some none else none
    | _ => none
  | .pass, s => match s with
    | .Pass _ => some (some lv)
    | .Expr (.Constant (.str _) _ _) _ => some (some lv)
    | _ => none
  | .raise_ x, s => match s with
    | .Raise (some (.Call (.Name y _) [.Constant (.str _) _ _] [] _)) none _ => if decide (x = y) && glB sc y then some none else none
    | _ => none
def chSs (N : List Str) (ds : Option Nat) (sc : Scope) (lv ll : List Nat) : Sts S → List Stmt → Option (Option (List Nat))
  | .nil, ss => match ss with
    | [] => some (some lv)
    | _ => none
  | .cons a r, ss => match ss with
    | s :: rest => match chS N ds sc lv ll a s with
      | some (some l) => chSs N ds sc l ll r rest
      | some none => some none
      | none => none
    | _ => none
end
mutual
def NeedS (G : GX) (k : SK S) : St S → Prop
  | .set _ _ _ c => NeedE G k c
  | .asg _ _ c => NeedE G k c
  | .asgM _ _ c => NeedE G k c
  | .par _ _ _ cs => NeedEs G k cs
  | .app _ _ c => NeedE G k c
  | .setItem _ _ ci c => NeedE G k ci ∧ NeedE G k c
  | .aug _ _ c => NeedE G k c
  | .expr c => NeedE G k c
  | .ret c => NeedE G k c
  | .ite c a b => NeedE G k c ∧ NeedSs G k a ∧ NeedSs G k b
  | .for_ _ _ it body => NeedI G k it ∧ NeedSs G k body
  | .while_ _ _ c body => NeedE G k c ∧ NeedSs G k body
  | .raise_ x => RaiseOk G x
  | .retN => True | .brk => True | .cnt => True | .pass => True
def NeedSs (G : GX) (k : SK S) : Sts S → Prop
  | .nil => True
  | .cons a r => NeedS G k a ∧ NeedSs G k r
end
structure XS (X : Cx) (k : SK S) (N : List Str) (ds : Option Nat) (sp : Scope) : Prop extends XG X k N ds sp where
  passes : PassesOwn (model X.prog X.w) X.A X.env X.xe
  fn : ∀ x, X.fn x = true
theorem slotB_ok {X : Cx} {sp : Scope} (g : XG X k N ds sp) {is : List Nat} (h : slotB ds is = true) : ∀ p, k.slot = some p → p.1 ∉ is := fun p hp => by
  have hi : ds = some p.1 := by rw [← g.slot, hp]; rfl
  rw [hi] at h
  simpa [slotB] using h
theorem subB_ok {a b : List Nat} (h : subB a b = true) : ∀ i ∈ a, i ∈ b := fun i hi => by
  unfold subB at h
  rw [List.all_eq_true] at h
  simpa using h i hi
theorem subO_ok {a : List Nat} {o : Option (List Nat)} (h : subO a o = true) : ∀ l, o = some l → ∀ i ∈ a, i ∈ l := fun l hl i hi => by
  subst hl
  exact subB_ok h i hi
theorem locB_Loc {X : Cx} {sp : Scope} {x : Str} (hs : X.env.scope = sp) (h : locB sp x = true) : L2.Loc X.env.scope x := by
  rw [hs]; exact locB_ok h
theorem locN_ok {X : Cx} {sp : Scope} {x : Str} (hs : X.env.scope = sp) (h : locN sp x = true) : X.env.scope.names.lookup x = some .local := by
  rw [hs]; simpa [locN] using h
theorem tgNs_lt {X : Cx} : ∀ {is : List Nat} {es : List Expr}, TgNs X is es → ∀ i ∈ is, i < X.N.length
  | [], [], _, i, hi => by simp at hi
  | i :: is, e :: es, h, j, hj => by
    rcases List.mem_cons.mp hj with rfl | hj
    · obtain ⟨x, pos, _, q, _⟩ := h.1
      exact (List.getElem?_eq_some_iff.mp q).1
    · exact tgNs_lt h.2 j hj
  | [], _ :: _, h, _, _ => h.elim
  | _ :: _, [], h, _, _ => h.elim
theorem tgMix_lt {X : Cx} : ∀ {ts : List TgI} {es : List Expr}, TgIs X ts es → ∀ i ∈ flatI ts, i < X.N.length
  | [], [], _, i, hi => by simp [flatI] at hi
  | .nm i :: ts, e :: es, h, j, hj => by
    have h : TgN X i e ∧ TgIs X ts es := by simpa only [TgIs] using h
    rcases List.mem_cons.mp (show j ∈ i :: flatI ts from hj) with rfl | hj
    · obtain ⟨x, pos, _, q, _⟩ := h.1
      exact (List.getElem?_eq_some_iff.mp q).1
    · exact tgMix_lt h.2 j hj
  | .tup is :: ts, e :: r, h, j, hj => by
    cases e with
    | Tuple es _ _ =>
      have h : TgNs X is es ∧ TgIs X ts r := by simpa only [TgIs] using h
      rcases List.mem_append.mp (show j ∈ is ++ flatI ts from hj) with hj | hj
      · exact tgNs_lt h.1 j hj
      · exact tgMix_lt h.2 j hj
    | _ => simp [TgIs] at h
  | [], _ :: _, h, _, _ => by simp [TgIs] at h
  | .nm _ :: _, [], h, _, _ => by simp [TgIs] at h
  | .tup _ :: _, [], h, _, _ => by simp [TgIs] at h
theorem tgOk_lt {X : Cx} {tg : Tg} {e : Expr} (h : TgOk X tg e) : ∀ i ∈ tgs tg, i < X.N.length := by
  cases tg with
  | nm i =>
    intro j hj
    have : j = i := by simpa [tgs] using hj
    subst this
    obtain ⟨x, pos, _, q, _⟩ := h
    exact (List.getElem?_eq_some_iff.mp q).1
  | tup is =>
    cases e with
    | Tuple es _ _ => exact tgNs_lt h
    | _ => exact (show False from h).elim
  | mix ts =>
    cases e with
    | Tuple es _ _ => exact tgMix_lt h
    | _ => exact (show False from h).elim
theorem at_lt {N : List Str} {i : Nat} {x : Str} (h : N[i]? = some x) : i < N.length := (List.getElem?_eq_some_iff.mp h).1
theorem sw_else {env : PySem.Env} {e tg : Expr} {l : Nat} (h : ∀ x p, tg ≠ .Name x p) : swapsWith e (some tg) l env = pure false := by
  unfold swapsWith
  cases e <;> first | rfl | (cases tg <;> first | rfl | exact absurd rfl (h _ _))
theorem sw_none {env : PySem.Env} {e : Expr} {l : Nat} (h : compB e = false) : swapsWith e none l env = pure false := by
  cases e <;> first | rfl | cases h
theorem swapped_else {env : PySem.Env} {ts : List Expr} {a : Nat} {b : Pos} {e : Expr} (h : isTupE e = false) : swappedStores [.Tuple ts a b] e env = pure none := by
  cases e <;> first | rfl | cases h
theorem swapped_mix {env : PySem.Env} {ts : List Expr} {a : Nat} {b : Pos} {e : Expr} (h : someT ts = true) : swappedStores [.Tuple ts a b] e env = pure none := by
  have hl : ∀ f : Expr → Option Str, (∀ x, (match x with | Expr.Name _ _ => false | _ => true) = true → f x = none) → (ts.filterMap f).length ≠ ts.length := fun f hf => by
    unfold someT at h
    obtain ⟨x, hx, hn⟩ := List.any_eq_true.mp h
    have hx0 := hf x hn
    clear h
    induction ts with
    | nil => cases hx
    | cons y r ih =>
      have hle := List.length_filterMap_le f r
      rcases List.mem_cons.mp hx with q | q
      · subst q
        rw [List.filterMap_cons_none hx0, List.length_cons]
        omega
      · have := ih q
        cases hy : f y with
        | none => rw [List.filterMap_cons_none hy, List.length_cons]; omega
        | some z => rw [List.filterMap_cons_some hy, List.length_cons, List.length_cons]; omega
  unfold swappedStores
  cases e <;> first
    | rfl
    | (rename_i vs k2 p2
       dsimp only
       split
       · rfl
       · split
         · rfl
         · rw [if_pos (by
             rw [Bool.or_eq_true, bne_iff_ne]
             exact .inl (hl _ fun x hx => by cases x <;> first | rfl | cases hx))])
theorem run_set {i : Nat} {own im : Bool} {c : E S} (ρ : Env) (st : S) : run (.set i own im c) ρ st = bnd ((fun ρ => bnd (ev c ρ) fun d => ret [d]) ρ) (fun ds => if ds.length = [i].length ∧ (im = false ∨ immKs [own] ds = true) then ret (.nx (setAll [i] ds ρ)) else lft .bad) st := by
  show bnd (ev c ρ) (fun d => if im = false ∨ immK own d = true then ret (Fl.nx (ρ.set i (some d))) else lft .bad) st = _
  unfold bnd R.bind
  dsimp only
  cases ev c ρ st with
  | ok a =>
    have e : ([a.1].length = [i].length ∧ (im = false ∨ immKs [own] [a.1] = true)) = (im = false ∨ immK own a.1 = true) := by simp [immKs]
    show (if im = false ∨ immK own a.1 = true then ret (Fl.nx (ρ.set i (some a.1))) else lft .bad) a.2 = (if [a.1].length = [i].length ∧ (im = false ∨ immKs [own] [a.1] = true) then ret (Fl.nx (setAll [i] [a.1] ρ)) else lft .bad) a.2
    by_cases h : im = false ∨ immK own a.1 = true
    · rw [if_pos h, if_pos (by rw [e]; exact h)]; rfl
    · rw [if_neg h, if_neg (by rw [e]; exact h)]
  | exc x l => rfl
  | bad => rfl
theorem immKs_nil : ∀ ds : List PyData, immKs [] ds = imm.go ds
  | [] => rfl
  | d :: ds => by rw [immKs, imm.go, immKs_nil ds]
theorem run_asgM {ts : List TgI} {im : Bool} {c : E S} (ρ : Env) (st : S) : run (.asgM ts im c) ρ st = bnd ((fun ρ => bnd (ev c ρ) fun d => lft (mixR ts d)) ρ) (fun ds => if ds.length = (flatI ts).length ∧ (im = false ∨ immKs [] ds = true) then ret (.nx (setAll (flatI ts) ds ρ)) else lft .bad) st := by
  show bnd (ev c ρ) (fun d => bnd (lft (mixR ts d)) fun ds => if ds.length = (flatI ts).length ∧ (im = false ∨ immKs [] ds = true) then ret (Fl.nx (setAll (flatI ts) ds ρ)) else lft .bad) st = _
  unfold bnd R.bind
  dsimp only
  cases ev c ρ st <;> rfl
theorem run_asg {is : List Nat} {im : Bool} {c : E S} (ρ : Env) (st : S) : run (.asg is im c) ρ st = bnd ((fun ρ => bnd (ev c ρ) fun d => lft (tupR is.length d)) ρ) (fun ds => if ds.length = is.length ∧ (im = false ∨ immKs [] ds = true) then ret (.nx (setAll is ds ρ)) else lft .bad) st := by
  show bnd (ev c ρ) (fun d => if im = false ∨ imm d = true then bnd (lft (asg (.tup is) d ρ)) fun ρ' => ret (Fl.nx ρ') else lft .bad) st = _
  unfold bnd R.bind
  dsimp only
  cases ev c ρ st with
  | exc x l => rfl
  | bad => rfl
  | ok a =>
    dsimp only
    cases h : a.1 with
    | tuple ds =>
      by_cases hl : ds.length = is.length
      · by_cases hi : im = false ∨ imm.go ds = true
        · have hi' : im = false ∨ imm (.tuple ds) = true := hi
          simp [tupR, hl, hi, hi', immKs_nil, lft, R.bind, asg, ret]
        · have hi' : ¬ (im = false ∨ imm (.tuple ds) = true) := hi
          rw [if_neg hi']
          simp [tupR, hl, hi, immKs_nil, lft, R.bind]
      · by_cases hi' : im = false ∨ imm (.tuple ds) = true
        · rw [if_pos hi']; simp [tupR, hl, lft, R.bind, asg]
        · rw [if_neg hi']; simp [tupR, hl, lft, R.bind]
    | none => by_cases hi' : im = false ∨ imm .none = true <;> simp [hi', tupR, lft, R.bind, asg]
    | bool b => by_cases hi' : im = false ∨ imm (.bool b) = true <;> simp [hi', tupR, lft, R.bind, asg]
    | int b => by_cases hi' : im = false ∨ imm (.int b) = true <;> simp [hi', tupR, lft, R.bind, asg]
    | str b => by_cases hi' : im = false ∨ imm (.str b) = true <;> simp [hi', tupR, lft, R.bind, asg]
    | list b => by_cases hi' : im = false ∨ imm (.list b) = true <;> simp [hi', tupR, lft, R.bind, asg]
    | dict b => by_cases hi' : im = false ∨ imm (.dict b) = true <;> simp [hi', tupR, lft, R.bind, asg]

mutual
theorem chS_ok {X : Cx} {sp : Scope} (g : XS X k N ds sp) : ∀ (c : St S) (lv ll : List Nat) (s : Stmt) (lv' : Option (List Nat)), NeedS (gx X) k c → chS N ds sp lv ll c s = some lv' → SS X k lv ll c s lv'
  | .set i own im c, lv, ll, s, lv', nd, h => by
    simp only [chS] at h
    split at h
    · rename_i x p' e pos
      split at h
      · rename_i hz
        cases h
        simp only [Bool.and_eq_true, decide_eq_true_eq] at hz
        obtain ⟨⟨⟨⟨h1, h2⟩, h3⟩, h4⟩, h5⟩ := hz
        have hN : X.N[i]? = some x := by rw [g.n]; exact h1
        have hnd : X.N.Nodup := by rw [g.n]; exact g.nd
        refine ss_put (m := fun ρ => bnd (ev c ρ) fun d => ret [d]) ?_ (by simp) (fun j hj => by simp at hj; subst hj; exact at_lt hN) (slotB_ok g.toXG h3) run_set
        unfold setB at h5
        split at h5
        · rename_i hsw
          rw [Bool.and_eq_true] at h5
          cases c with
          | lc elt tgt it c own' =>
            obtain ⟨x', tg, iter, ifs, scope, pos', rfl, q⟩ := mt_lc g.toXG nd h4
            exact sv_lc hnd g.calm q.hi q.ok q.hf q.hown q.hds q.ht q.hcc q.he hN (locN_ok g.sc h5.2) (by rw [swB_ok g.sc, hsw])
          | _ => cases h5.1
        · rename_i hsw
          have hsw : swB sp e x p' = false := by simpa using hsw
          have sw : swapsWith e (some (.Name x p')) pos.line X.env = pure false := by rw [swB_ok g.sc, hsw]
          cases own with
          | false => exact sv_set (mt_ok c X sp e g.toXG nd h4).e hnd hN (locB_Loc g.sc h2) (g.fn x) sw
          | true => exact sv_setF (mt_sf g.toXG nd (by simpa using h5) h4) hnd hN (locB_Loc g.sc h2) (g.fn x) sw
      · cases h
    · cases h
  | .asg is im c, lv, ll, s, lv', nd, h => by
    simp only [chS] at h
    split at h
    · rename_i ts j pt e pos
      split at h
      · rename_i hz
        cases h
        simp only [Bool.and_eq_true, decide_eq_true_eq, Bool.not_eq_true'] at hz
        obtain ⟨⟨⟨⟨h1, h2⟩, h3⟩, h4⟩, h5⟩ := hz
        have tg := tgNs_of (X := X) (fun i e q => tgN_def g.n g.sc g.fn q) h1
        exact ss_put (m := fun ρ => bnd (ev c ρ) fun d => lft (tupR is.length d)) (sv_asg (mt_ok c X sp e g.toXG nd h4).e (by rw [g.n]; exact g.nd) g.calm tg (show swapsWith e (some (.Tuple ts j pt)) pos.line X.env = pure false from sw_else fun x p z => by cases z) (swapped_else h5)) (nodupB_ok h2) (tgNs_lt tg) (slotB_ok g.toXG h3) run_asg
      · cases h
    · cases h
  | .asgM ts im c, lv, ll, s, lv', nd, h => by
    simp only [chS] at h
    split at h
    · rename_i es j pt e pos
      split at h
      · rename_i hz
        cases h
        simp only [Bool.and_eq_true, decide_eq_true_eq, Bool.not_eq_true'] at hz
        obtain ⟨⟨⟨⟨h1, h2⟩, h3⟩, h4⟩, h5⟩ := hz
        have tg := tgMix_of (X := X) (fun i e q => tgN_def g.n g.sc g.fn q) h1
        exact ss_put (m := fun ρ => bnd (ev c ρ) fun d => lft (mixR ts d)) (sv_asgM (mt_ok c X sp e g.toXG nd h4).e (by rw [g.n]; exact g.nd) g.calm tg (show swapsWith e (some (.Tuple es j pt)) pos.line X.env = pure false from sw_else fun x p z => by cases z) (swapped_mix h5)) (nodupB_ok h2) (tgMix_lt tg) (slotB_ok g.toXG h3) run_asgM
      · cases h
    · cases h
  | .par is ks im cs, lv, ll, s, lv', nd, h => by
    simp only [chS] at h
    split at h
    · rename_i ts kt pt vs k2 pt2 pos
      split at h
      · rename_i hz
        cases h
        simp only [Bool.and_eq_true, decide_eq_true_eq] at hz
        obtain ⟨⟨⟨⟨⟨h1, h2⟩, h3⟩, h4⟩, h5⟩, h6⟩ := hz
        have hnd : X.N.Nodup := by rw [g.n]; exact g.nd
        have hd := nodupB_ok h2
        have saf := mtA_ok g.toXG ks cs vs nd h4
        have hz8 : is.length ≤ sizeLine := by rw [sizeLine_eq]; omega
        unfold parB at h1
        split at h1
        · rename_i hsw
          have tg := tgNs_of (X := X) (fun i e q => tgN_def g.n g.sc g.fn q) h1
          exact ss_put (m := fun ρ => evs cs ρ) (sv_parT saf h5 hz8 hnd g.calm tg (swp_ok g.sc hsw)) hd (tgNs_lt tg) (slotB_ok g.toXG h3) (fun ρ st => rfl)
        · rename_i names hsw
          split at h1
          · rename_i i j x px y py
            simp only [Bool.and_eq_true, decide_eq_true_eq] at h1
            obtain ⟨⟨⟨⟨a1, a2⟩, a3⟩, a4⟩, rfl⟩ := h1
            have hi : X.N[i]? = some x := by rw [g.n]; exact a1
            have hj : X.N[j]? = some y := by rw [g.n]; exact a2
            have hij : i ≠ j := by
              intro z; subst z; simp at hd
            have hvs : ∃ a b, vs = [a, b] := by
              have : vs.length = 2 := by
                have e1 : ∀ (ks : List Bool) (cs : Es S) (vs : List Expr), mtA N ds sp ks cs vs = true → vs.length = esLen cs := by
                  intro ks
                  induction ks with
                  | nil => intro cs vs h; cases cs <;> cases vs <;> first | rfl | cases h
                  | cons b ks ih =>
                    intro cs vs h
                    cases cs with
                    | nil => cases vs <;> cases h
                    | cons c r =>
                      cases vs with
                      | nil => cases h
                      | cons v vs =>
                        simp only [mtA, Bool.and_eq_true] at h
                        show vs.length + 1 = esLen r + 1
                        rw [ih r vs h.2]
                rw [e1 _ _ _ h4, h5]; rfl
              match vs, this with
              | [a, b], _ => exact ⟨a, b, rfl⟩
            obtain ⟨a, b, rfl⟩ := hvs
            exact ss_put (m := fun ρ => evs cs ρ) (sv_par2 saf h5 hnd g.calm hi hj hij (locN_ok g.sc a3) (locN_ok g.sc a4) (swp_ok g.sc hsw)) hd (fun l hl => by simp at hl; rcases hl with rfl | rfl; exact at_lt hi; exact at_lt hj) (slotB_ok g.toXG h3) (fun ρ st => rfl)
          · rename_i i j l x px y py z pz
            simp only [Bool.and_eq_true, decide_eq_true_eq] at h1
            obtain ⟨⟨⟨⟨⟨⟨a1, a2⟩, a3⟩, a4⟩, a5⟩, a6⟩, rfl⟩ := h1
            have hi : X.N[i]? = some x := by rw [g.n]; exact a1
            have hj : X.N[j]? = some y := by rw [g.n]; exact a2
            have hl : X.N[l]? = some z := by rw [g.n]; exact a3
            have hd' : i ≠ j ∧ i ≠ l ∧ j ≠ l := by
              simp at hd; omega
            have hvs : ∃ a b c, vs = [a, b, c] := by
              have : vs.length = 3 := by
                have e1 : ∀ (ks : List Bool) (cs : Es S) (vs : List Expr), mtA N ds sp ks cs vs = true → vs.length = esLen cs := by
                  intro ks
                  induction ks with
                  | nil => intro cs vs h; cases cs <;> cases vs <;> first | rfl | cases h
                  | cons b ks ih =>
                    intro cs vs h
                    cases cs with
                    | nil => cases vs <;> cases h
                    | cons c r =>
                      cases vs with
                      | nil => cases h
                      | cons v vs =>
                        simp only [mtA, Bool.and_eq_true] at h
                        show vs.length + 1 = esLen r + 1
                        rw [ih r vs h.2]
                rw [e1 _ _ _ h4, h5]; rfl
              match vs, this with
              | [a, b, c], _ => exact ⟨a, b, c, rfl⟩
            obtain ⟨a, b, c, rfl⟩ := hvs
            exact ss_put (m := fun ρ => evs cs ρ) (sv_par3 saf h5 hnd g.calm hi hj hl hd'.1 hd'.2.1 hd'.2.2 (locN_ok g.sc a4) (locN_ok g.sc a5) (locN_ok g.sc a6) (swp_ok g.sc hsw)) hd (fun m hm => by simp at hm; rcases hm with rfl | rfl | rfl; exact at_lt hi; exact at_lt hj; exact at_lt hl) (slotB_ok g.toXG h3) (fun ρ st => rfl)
          · cases h1
        · cases h1
      · cases h
    · cases h
  | .app i im c, lv, ll, s, lv', nd, h => by
    simp only [chS] at h
    split at h
    · rename_i x p1 nm p2 e p3 pos
      split at h
      · rename_i hz
        cases h
        simp only [Bool.and_eq_true, decide_eq_true_eq, Bool.or_eq_true, Bool.not_eq_true', List.contains_iff_mem] at hz
        obtain ⟨⟨⟨⟨⟨⟨⟨rfl, h1⟩, h2⟩, h3⟩, h4⟩, h5⟩, h6⟩, h7⟩ := hz
        obtain ⟨h8, h9⟩ := plainName_ok h3
        have q := mt_ok c X sp e g.toXG nd h4
        refine ss_app q.e q.ok (by rw [g.n]; exact h1) (visB_ok g.sc h2) h8 h9 h5 (h6.imp id fun z w => ?_) h7
        rw [List.contains_iff_mem.mpr w] at z; cases z
      · cases h
    · cases h
  | .setItem i im ci c, lv, ll, s, lv', nd, h => by
    simp only [chS] at h
    split at h
    · rename_i x p1 ei p2 e pos
      split at h
      · rename_i hz
        cases h
        simp only [Bool.and_eq_true, decide_eq_true_eq, Bool.or_eq_true, Bool.not_eq_true', List.contains_iff_mem] at hz
        obtain ⟨⟨⟨⟨⟨⟨h1, h2⟩, h3⟩, h4⟩, h5⟩, h6⟩, h7⟩ := hz
        obtain ⟨h8, h9⟩ := plainName_ok h3
        have q := mt_ok c X sp e g.toXG nd.2 h4
        have qi := mt_ok ci X sp ei g.toXG nd.1 h5
        refine ss_setItem g.room q.e qi.e qi.ok (by rw [g.n]; exact h1) (visB_ok g.sc h2) h8 h9 h6 (h7.imp id fun z w => ?_) (fun v => ?_) (sw_else fun x p z => by cases z)
        · rw [List.contains_iff_mem.mpr w] at z; cases z
        · have := qi.ok
          cases ei <;> first | rfl | cases this
      · cases h
    · cases h
  | .aug i op c, lv, ll, s, lv', nd, h => by
    simp only [chS] at h
    split at h
    · rename_i x p1 o e pos
      split at h
      · rename_i hz
        cases h
        simp only [Bool.and_eq_true, decide_eq_true_eq] at hz
        obtain ⟨⟨⟨⟨rfl, h1⟩, h2⟩, h3⟩, h4⟩ := hz
        refine ss_aug (mt_ok c X sp e g.toXG nd h4).e (by rw [g.n]; exact g.nd) (by rw [g.n]; exact h1) (locB_Loc g.sc h2) (g.fn x) fun p hp => ?_
        have := slotB_ok g.toXG h3 p hp
        simpa using this
      · cases h
    · cases h
  | .expr c, lv, ll, s, lv', nd, h => by
    simp only [chS] at h
    split at h
    · rename_i e pos
      split at h
      · rename_i hz
        cases h
        simp only [Bool.and_eq_true, Bool.not_eq_true'] at hz
        exact ss_expr (mt_ok c X sp e g.toXG nd hz.1).e (sw_none hz.2)
      · cases h
    · cases h
  | .ret c, lv, ll, s, lv', nd, h => by
    simp only [chS] at h
    split at h
    · rename_i e pos
      split at h
      · rename_i hz
        cases h
        exact ss_ret (mt_ok c X sp e g.toXG nd hz).e
      · cases h
    · cases h
  | .retN, lv, ll, s, lv', nd, h => by
    simp only [chS] at h
    split at h
    · cases h
      exact ss_retN
    · cases h
  | .ite c a b, lv, ll, s, lv', nd, h => by
    simp only [chS] at h
    split at h
    · rename_i e sa sb pos
      split at h
      · rename_i hz
        split at h
        · rename_i la lb h1 h2
          cases h
          exact ss_ite (mt_ok c X sp e g.toXG nd.1 hz).t (chSs_ok g a lv ll sa la nd.2.1 h1) (chSs_ok g b lv ll sb lb nd.2.2 h2)
        · cases h
      · cases h
    · cases h
  | .for_ li tg it body, lv, ll, s, lv', nd, h => by
    simp only [chS] at h
    split at h
    · rename_i etg eit sb pos
      split at h
      · rename_i hz
        split at h
        · rename_i lb hb
          split at h
          · rename_i hlb
            cases h
            simp only [Bool.and_eq_true] at hz
            obtain ⟨⟨⟨⟨⟨⟨h1, h2⟩, h3⟩, h4⟩, h5⟩, h6⟩, h7⟩ := hz
            have hnd : X.N.Nodup := by rw [g.n]; exact g.nd
            have tgo := tgB_of (X := X) (fun i e q => tgN_def g.n g.sc g.fn q) h2
            have qb := chSs_ok g body li li sb lb nd.2 hb
            obtain ⟨qi, oi⟩ := mtI_ok it X sp etg eit g.toXG nd.1 h1
            have h5' : ∀ i ∈ tgs tg, i ∉ li := fun i hi z => by
              rw [List.all_eq_true] at h5
              have := h5 i hi
              rw [List.contains_iff_mem.mpr z] at this
              cases this
            by_cases hr : rangeB it = true
            · have sir : SIr X k etg it eit := by
                cases it with
                | range1 a =>
                  simp only [mtI] at h1
                  split at h1
                  · simp only [Bool.and_eq_true, decide_eq_true_eq] at h1
                    obtain ⟨⟨rfl, a2⟩, a3⟩ := h1
                    have q := mt_ok a X sp _ g.toXG nd.1 a3
                    exact sir_range1 (glB_ok g.sc a2).1 (gl_free g.toXG (n := "range") (by decide)) q.e q.ok
                  · cases h1
                | range2 a b =>
                  simp only [mtI] at h1
                  split at h1
                  · simp only [Bool.and_eq_true, decide_eq_true_eq] at h1
                    obtain ⟨⟨⟨rfl, a2⟩, a3⟩, a4⟩ := h1
                    have q := mt_ok a X sp _ g.toXG nd.1.1 a3
                    have q2 := mt_ok b X sp _ g.toXG nd.1.2 a4
                    exact sir_range2 (glB_ok g.sc a2).1 (gl_free g.toXG (n := "range") (by decide)) q.e q2.e q.ok q2.ok
                  · cases h1
                | _ => cases hr
              exact ss_forR g.passes hnd g.calm sir oi tgo qb (subB_ok h6) (subO_ok hlb) h5' (tgOk_lt tgo) (slotB_ok g.toXG h4) (nodupB_ok h3)
            · rw [Bool.or_eq_true] at h7
              rcases h7 with h7 | h7
              · exact absurd h7 hr
              · refine ss_for g.passes hnd g.calm qi oi tgo qb (fun i hi => ⟨subB_ok h6 i hi, fun z => ?_⟩) (subO_ok hlb) h5' (tgOk_lt tgo) (slotB_ok g.toXG h4) (nodupB_ok h3)
                rw [List.all_eq_true] at h7
                have := h7 i hi
                rw [List.contains_iff_mem.mpr z] at this
                cases this
          · cases h
        · cases h
      · cases h
    · cases h
  | .while_ li n c body, lv, ll, s, lv', nd, h => by
    simp only [chS] at h
    split at h
    · rename_i e sb pos
      split at h
      · rename_i hz
        split at h
        · rename_i lb hb
          split at h
          · rename_i hlb
            cases h
            rw [Bool.and_eq_true] at hz
            exact ss_while g.passes (mt_ok c X sp e g.toXG nd.1 hz.1).t (chSs_ok g body li li sb lb nd.2 hb) (subB_ok hz.2) (subO_ok hlb)
          · cases h
        · cases h
      · cases h
    · cases h
  | .brk, lv, ll, s, lv', nd, h => by
    simp only [chS] at h
    split at h
    · split at h
      · rename_i hz
        cases h
        exact ss_brk (subB_ok hz)
      · cases h
    · cases h
  | .cnt, lv, ll, s, lv', nd, h => by
    simp only [chS] at h
    split at h
    · split at h
      · rename_i hz
        cases h
        exact ss_cnt (subB_ok hz)
      · cases h
    · cases h
  | .pass, lv, ll, s, lv', nd, h => by
    simp only [chS] at h
    split at h
    · cases h; exact ss_pass
    · cases h; exact ss_doc
    · cases h
  | .raise_ x, lv, ll, s, lv', nd, h => by
    simp only [chS] at h
    split at h
    · split at h
      · rename_i hz
        cases h
        simp only [Bool.and_eq_true, decide_eq_true_eq] at hz
        obtain ⟨rfl, hz⟩ := hz
        obtain ⟨h1, h2⟩ := glB_ok g.sc hz
        exact ss_raise g.calm nd h1 h2
      · cases h
    · cases h
theorem chSs_ok {X : Cx} {sp : Scope} (g : XS X k N ds sp) : ∀ (c : Sts S) (lv ll : List Nat) (s : List Stmt) (lv' : Option (List Nat)), NeedSs (gx X) k c → chSs N ds sp lv ll c s = some lv' → SSs X k lv ll c s lv'
  | .nil, lv, ll, s, lv', nd, h => by
    simp only [chSs] at h
    split at h
    · cases h; exact sss_nil
    · cases h
  | .cons a r, lv, ll, s, lv', nd, h => by
    simp only [chSs] at h
    split at h
    · rename_i s0 rest
      split at h
      · rename_i l hl
        have q1 := chS_ok g a lv ll s0 _ nd.1 hl
        have q2 := sss_cons q1 (r := r) (rest := rest) (lv2 := lv') fun l' hl' => by cases hl'; exact chSs_ok g r l ll rest lv' nd.2 h
        exact q2
      · rename_i hl
        cases h
        have q1 := chS_ok g a lv ll s0 _ nd.1 hl
        exact sss_cons q1 (r := r) (rest := rest) (lv2 := none) fun l' hl' => nomatch hl'
      · cases h
    · cases h
end
end
end Mir

set_option Elab.async false
set_option linter.all false
set_option maxRecDepth 100000
set_option maxHeartbeats 4000000
/-! Mir, part O: defs. -/
namespace Mir
open PySem PySem.Spec PyProof.Rows L2

/-- no state -/
def k0 : SK Unit := ⟨fun _ _ => True, fun _ => False, none, fun _ _ _ _ _ => trivial, fun _ _ _ _ h => h.elim⟩
/-- .. a slot whose address is known -/
def kA (a : Addr) : SK Unit := ⟨fun _ _ => True, fun _ => False, some (0, a), fun _ _ _ _ _ => trivial, fun _ _ _ _ h => h.elim⟩
/-- the draws, the last one first, in the list at a, which stands in slot i -/
def kR (i : Nat) (a : Addr) : SK (List Int) where
  rel := fun st H => H a = some (.lst (st.reverse.map V.int)) ∧ st.length ≤ sizeLine
  loc := fun b => b = a
  slot := some (i, a)
  keep := fun s H H' r h => ⟨by rw [h a rfl]; exact r.1, r.2⟩
  there := fun s H b r h => ⟨s.reverse.map V.int, by subst h; exact r.1⟩
def pureR (r : R (PyData × Unit)) : R PyData := r.bind fun p => .ok p.1
/-- a def without state -/
def defP (n : Nat) (body : Sts Unit) (args : List PyData) : R PyData := pureR (runDef n body args ())
/-- a def whose first parameter is the draws -/
def defD (n : Nat) (body : Sts (List Int)) (args : List PyData) : M (List Int) PyData :=
  bnd (runs body (none :: (args.map some ++ List.replicate (n - 1 - args.length) none))) fun fl => match fl with
    | .ret d => ret d
    | .nx _ => ret .none
    | _ => lft .bad
def spD (mg : Str → Option Value) (m : List PyData → List Int → R (PyData × List Int)) (n : Nat) : Sp := fun vs H Q E => ∃ a, spS mg (kR 0 a) a m n vs H Q E

section
variable (P : Program) (w : World) (K : PySem.W.Frag) (mg : Str → Option Value) (base : Heap)
/-- the name nm is a def that is m, at level lv -/
def FnG (lv : Nat) (nm : Str) (m : List PyData → R PyData) (n : Nat) : Prop := ∃ (f : Addr) (fd : FuncData) (ps : List Str),
  FnOk P w K mg base (L2.CX P w) lv f fd ps (spP mg m n) ∧ mg nm = some (.ref f) ∧ PySem.W.keepIn K (.ref f) = true ∧ Binds K fd ps []
def FnGD (lv : Nat) (nm : Str) (m : List PyData → List Int → R (PyData × List Int)) (n : Nat) : Prop := ∃ (f : Addr) (fd : FuncData) (ps : List Str),
  FnOk P w K mg base (L2.CX P w) lv f fd ps (spD mg m n) ∧ mg nm = some (.ref f) ∧ PySem.W.keepIn K (.ref f) = true ∧ Binds K fd ps []
end
section
variable {P : Program} {w : World} {K : PySem.W.Frag} {mg : Str → Option Value} {base : Heap} {lv lv' : Nat} {nm : Str} {n : Nat}
theorem FnG.s {m : List PyData → R PyData} (h : FnG P w K mg base lv nm m n) {A : Around} (hr : Room lv' A) (hl : lv ≤ lv') : FnS ⟨P, w, K, mg, base, A⟩ nm m n := by
  obtain ⟨f, fd, ps, F, h1, h2, h3⟩ := h
  exact ⟨f, fd, ps, lv, F, hr.mono hl, h1, h2, h3⟩
theorem FnGD.s {m : List PyData → List Int → R (PyData × List Int)} (h : FnGD P w K mg base lv nm m n) {A : Around} (hr : Room lv' A) (hl : lv ≤ lv') (i : Nat) (a : Addr) : ∃ j da, (kR i a).slot = some (j, da) ∧ FnSS ⟨P, w, K, mg, base, A⟩ (kR i a) da nm m n := by
  obtain ⟨f, fd, ps, F, h1, h2, h3⟩ := h
  exact ⟨i, a, rfl, f, fd, ps, lv, F.imp (fun vs H Q E q => ⟨a, q⟩), hr.mono hl, h1, h2, h3⟩

/-- the slots at the entry -/
theorem env_start {N : List Str} {T : Addr → Prop} {H : Hp} {ds : List PyData} {vs : List V} (r : RepL T H ds vs) (dm : DomM T H) (hn : vs.length ≤ N.length) :
    EnvO k0 T H (fun _ _ => False) (fun _ => none) (ds.map some ++ List.replicate (N.length - ds.length) none) () (start N vs) H := by
  have hl := r.length
  refine { v0 := fun i d hd _ => ?_, v1 := fun _ _ h => (nomatch h), inj := fun _ _ _ h => (nomatch h), new := fun _ _ h => (nomatch h), ext := .refl, dom0 := dm, loc := fun _ h => h.elim, rel := trivial, ds := fun _ h => (nomatch h), len := ?_, kept := fun _ _ h => h.elim }
  · have hi : i < ds.length := by
      by_cases hi : i < ds.length
      · exact hi
      · rw [List.getElem?_append_right (by simpa using hi), List.getElem?_replicate] at hd
        split at hd <;> cases hd
    rw [List.getElem?_append_left (by simpa using hi), List.getElem?_map] at hd
    have hd' : ds[i]? = some d := by
      cases q : ds[i]? with
      | none => rw [q] at hd; cases hd
      | some x => rw [q] at hd; cases hd; rfl
    obtain ⟨v, h1, h2⟩ := r.get hd'
    refine ⟨v, ?_, h2.less fun a t => t.elim id fun ⟨_, z⟩ => nomatch z⟩
    unfold L2.start
    rw [List.getElem?_append_left (by rw [List.length_map]; omega), List.getElem?_map, h1]
    rfl
  · unfold L2.start
    simp only [List.length_append, List.length_map, List.length_replicate, hl]
theorem envD_start {N : List Str} {T : Addr → Prop} {H : Hp} {ds : List PyData} {vs : List V} {a : Addr} {st : List Int} (r : RepL T H ds vs) (dm : DomM T H) (hn : vs.length + 1 ≤ N.length) (ha : T a) (rel : (kR 0 a).rel st H) :
    EnvO (kR 0 a) T H (fun _ _ => False) (fun _ => none) (none :: (ds.map some ++ List.replicate (N.length - 1 - ds.length) none)) st (start N (.ref a :: vs)) H := by
  have hl := r.length
  refine { v0 := fun i d hd _ => ?_, v1 := fun _ _ h => (nomatch h), inj := fun _ _ _ h => (nomatch h), new := fun _ _ h => (nomatch h), ext := .refl, dom0 := dm, loc := fun b h => by rw [show b = a from h]; exact ha, rel := rel, ds := fun p h => (by cases h; rfl), len := ?_, kept := fun _ _ h => h.elim }
  · cases i with
    | zero => cases hd
    | succ i =>
      rw [List.getElem?_cons_succ] at hd
      have hi : i < ds.length := by
        by_cases hi : i < ds.length
        · exact hi
        · rw [List.getElem?_append_right (by simpa using hi), List.getElem?_replicate] at hd
          split at hd <;> cases hd
      rw [List.getElem?_append_left (by simpa using hi), List.getElem?_map] at hd
      have hd' : ds[i]? = some d := by
        cases q : ds[i]? with
        | none => rw [q] at hd; cases hd
        | some x => rw [q] at hd; cases hd; rfl
      obtain ⟨v, h1, h2⟩ := r.get hd'
      refine ⟨v, ?_, h2.less fun a t => t.elim id fun ⟨_, z⟩ => nomatch z⟩
      unfold L2.start
      rw [List.map_cons, List.cons_append, List.getElem?_cons_succ, List.getElem?_append_left (by rw [List.length_map]; omega), List.getElem?_map, h1]
      rfl
  · unfold L2.start
    simp only [List.length_append, List.length_map, List.length_replicate, List.length_cons, hl]
    omega
/-- the context of a def -/
theorem xs_of {S : Type} {k : SK S} {N ps : List Str} {qual : Str} {sc : Scope} {f : Addr} {cd : Value} {A : Around} {outer : List PySem.Env} {s : Shared} {H : Hp} {E : XK} {j : Nat} {ds : Option Nat} (S : FnScope N ps sc) (fr : ∀ x ∈ bltNames, mg (Str.ofString x) = none) (hr : Room j (A.deeper (envOfC qual sc s.heap.objs.size f cd)))
    (hk : k.slot.map (·.1) = ds) : XS (cxOf (L2.CX P w) P w K mg base N qual sc f cd A outer s H E) k N ds sc where
  n := rfl
  nd := S.nd
  sc := rfl
  calm := rfl
  room := by have := hr.un; show (A.deeper _).units + 200 < cLine; omega
  free := fr
  slot := hk
  passes := passes_of rfl
  fn := fun _ => rfl
theorem FnScope.le {N ps : List Str} {sc : Scope} (S : FnScope N ps sc) : ps.length ≤ N.length := by
  have := congrArg List.length S.pre
  rw [List.length_take] at this
  omega
abbrev FnD (K : PySem.W.Frag) (x : Str) (pr : Arguments) (bd : List Stmt) (sc : Scope) (f : Addr) (fd : FuncData) : Prop := FunD K x x pr bd sc [] [] f fd
/-- THE RULE for a def without state -/
theorem def_ok {x : Str} {pr : Arguments} {bd : List Stmt} {sc : Scope} {f : Addr} {fd : FuncData} {N ps : List Str} {body : Sts Unit} {lv2 : Option (List Nat)} {j : Nat} (F : FnD K x pr bd sc f fd) (S : FnScope N ps sc) (fr : ∀ x ∈ bltNames, mg (Str.ofString x) = none) (hx : mg x = some (.ref f)) (hb : Binds K fd ps [])
    (hc : chSs N none sc [] [] body bd = some lv2) (nd : ∀ A, Room j A → NeedSs ⟨P, w, K, mg, base, A⟩ k0 body) : FnG P w K mg base (j + 1) x (defP N.length body) ps.length := by
  refine ⟨f, fd, ps, F.ok S (fun vs H Q E h => h.1) fun cdv A outer s H vs Q E hr h => ⟨_, pss_w, ?_⟩, hx, F.kp, hb⟩
  obtain ⟨hl, T, ds, dm, r, h⟩ := h
  have g := xs_of (P := P) (w := w) (K := K) (mg := mg) (base := base) (k := k0) (qual := x) (f := f) (cd := cdv) (outer := outer) (H := H) (E := E) (ds := none) S fr hr rfl
  have en := env_start (N := N) r dm (by rw [hl]; exact FnScope.le S)
  refine chSs_ok g body [] [] bd lv2 (nd _ hr) hc T H _ _ _ () _ H _ (fun cls d _ H => E cls d H) (fun i hi => by cases hi) en (takes_of rfl rfl rfl rfl) ?_
  unfold defP pureR runDef bnd R.bind at h
  cases hr2 : runs body (ds.map some ++ List.replicate (N.length - ds.length) none) () with
  | exc x l => rw [hr2] at h; exact fun cls dx σ H' hx e => h cls dx H' hx e
  | bad => rw [hr2] at h; exact h
  | ok q =>
    obtain ⟨fl, st⟩ := q
    rw [hr2] at h
    cases fl with
    | nx ρ => exact fun l hl σ H' O hO e => h .non H' .mkNone e.ext
    | ret d => exact fun v H' rv e _ => h v H' rv e
    | brk ρ => exact h.elim
    | cnt ρ => exact h.elim
/-- .. whose first parameter is the draws -/
theorem defD_ok {x : Str} {pr : Arguments} {bd : List Stmt} {sc : Scope} {f : Addr} {fd : FuncData} {N ps : List Str} {body : Sts (List Int)} {lv2 : Option (List Nat)} {j n : Nat} (F : FnD K x pr bd sc f fd) (S : FnScope N ps sc) (fr : ∀ x ∈ bltNames, mg (Str.ofString x) = none) (hx : mg x = some (.ref f)) (hb : Binds K fd ps [])
    (hn : ps.length = n + 1) (hc : chSs N (some 0) sc [] [] body bd = some lv2) (nd : ∀ A, Room j A → ∀ a, NeedSs ⟨P, w, K, mg, base, A⟩ (kR 0 a) body) : FnGD P w K mg base (j + 1) x (defD N.length body) n := by
  refine ⟨f, fd, ps, F.ok S (fun vs H Q E h => ?_) fun cdv A outer s H vs Q E hr h => ⟨_, pss_w, ?_⟩, hx, F.kp, hb⟩
  · obtain ⟨a, T, ds, st, ws, rfl, hl, _⟩ := h
    rw [hn]; exact congrArg Nat.succ hl
  obtain ⟨a, T, ds, st, ws, rfl, hl, dm, hT, r, rel, h⟩ := h
  have g := xs_of (P := P) (w := w) (K := K) (mg := mg) (base := base) (k := kR 0 a) (qual := x) (f := f) (cd := cdv) (outer := outer) (H := H) (E := E) (ds := some 0) S fr hr rfl
  have en := envD_start (N := N) r dm (by rw [hl, ← hn]; exact FnScope.le S) (hT a rfl) rel
  refine chSs_ok g body [] [] bd lv2 (nd _ hr a) hc T H _ _ _ st _ H _ (fun cls d _ H => E cls d H) (fun i hi => by cases hi) en (takes_of rfl rfl rfl rfl) ?_
  unfold defD bnd R.bind at h
  cases hr2 : runs body (none :: (ds.map some ++ List.replicate (N.length - 1 - ds.length) none)) st with
  | exc x l => rw [hr2] at h; exact fun cls dx σ H' hx e => h cls dx H' hx e
  | bad => rw [hr2] at h; exact h
  | ok q =>
    obtain ⟨fl, st2⟩ := q
    rw [hr2] at h
    cases fl with
    | nx ρ => exact fun l hl σ H' O hO e => h .non H' .mkNone e.ext e.rel
    | ret d => exact fun v H' rv e rl => h v H' rv e rl
    | brk ρ => exact h.elim
    | cnt ρ => exact h.elim
end
end Mir

set_option Elab.async false
set_option linter.all false
set_option maxRecDepth 100000
set_option maxHeartbeats 4000000
/-! Mir, part P: the draws. -/
namespace Mir
open PySem PySem.Spec PyProof.Rows L2

/-- the next draw, below a bound -/
def m_take (ds : List PyData) (st : List Int) : R (PyData × List Int) := match ds with
  | [.int b] => (match st with
    | [] => .ok (.int 0, [])
    | x :: r => if 0 < b then .ok (.int (x % b), r) else .bad)
  | _ => .bad
/-- is that the text of the def that takes a draw? -/
def takeB (bd : List Stmt) : Bool := match bd with
  | [.If (.Compare (.Call (.Name l _) [.Name d1 _] [] _) [.Eq] [.Constant (.int z) _ _] _) [.Return (some (.Constant (.int z2) _ _)) _] [] _, .Return (some (.BinOp (.Call (.Name i _) [.Call (.Attribute (.Name d2 _) p ap) [] [] cp] [] _) .Mod (.Name b _) _)) _] =>
    decide (("len" : Str) = l) && decide (("draws" : Str) = d1) && decide ((0 : Int) = z) && decide ((0 : Int) = z2) && decide (("int" : Str) = i) && decide (("draws" : Str) = d2) && decide (("pop" : Str) = p) && decide (("bound" : Str) = b) && (ap.endLine == cp.line)
  | _ => false
section
variable {P : Program} {w : World} {K : PySem.W.Frag} {mg : Str → Option Value} {base : Heap}
theorem take_ok {pr : Arguments} {bd : List Stmt} {sc : Scope} {f : Addr} {fd : FuncData} (F : FnD K "_law_take" pr bd sc f fd) (S : FnScope ["draws", "bound"] ["draws", "bound"] sc) (fr : ∀ x ∈ bltNames, mg (Str.ofString x) = none) (hx : mg "_law_take" = some (.ref f)) (hb : Binds K fd ["draws", "bound"] [])
    (h : takeB bd = true) (hl : glB sc "len" = true) (hi : glB sc "int" = true) (hd : visB sc "draws" = true) (hbo : visB sc "bound" = true) : FnGD P w K mg base 1 "_law_take" m_take 1 := by
  refine ⟨f, fd, _, F.ok S (fun vs H Q E h => ?_) fun cdv A outer s H vs Q E hr hsp => ⟨_, pss_w, ?_⟩, hx, F.kp, hb⟩
  · obtain ⟨a, T, ds, st, ws, rfl, hl, _⟩ := h
    exact congrArg Nat.succ hl
  unfold takeB at h
  split at h
  · rename_i l p1 d1 p2 p3 z k4 p4 p5 z2 k6 p6 p7 p8 i p9 d2 p10 p ap cp p11 b p12 p13 p14
    simp only [Bool.and_eq_true, decide_eq_true_eq] at h
    obtain ⟨⟨⟨⟨⟨⟨⟨⟨rfl, rfl⟩, rfl⟩, rfl⟩, rfl⟩, rfl⟩, rfl⟩, rfl⟩, hline⟩ := h
    obtain ⟨a, T, ds, st, ws, rfl, hl', dm, hT, r, rel, hm⟩ := hsp
    have g := xs_of (P := P) (w := w) (K := K) (mg := mg) (base := base) (k := kR 0 a) (qual := "_law_take") (f := f) (cd := cdv) (outer := outer) (H := H) (E := E) (ds := some 0) S fr hr rfl
    generalize hX : cxOf (L2.CX P w) P w K mg base ["draws", "bound"] "_law_take" sc f cdv A outer s H E = X at g ⊢
    have hN : X.N = (["draws", "bound"] : List Str) := g.n
    have v0 : PE X (.Name "draws" p2) (tVar 0) := pe_var (by rw [hN]; rfl) (visB_ok g.sc hd)
    have v0' : PE X (.Name "draws" p10) (tVar 0) := pe_var (by rw [hN]; rfl) (visB_ok g.sc hd)
    have v1 : PE X (.Name "bound" p12) (tVar 1) := pe_var (by rw [hN]; rfl) (visB_ok g.sc hbo)
    have hlen := glB_ok g.sc hl
    have hint := glB_ok g.sc hi
    have pop : PE X (.Call (.Attribute (.Name "draws" p10) "pop" ap) [] [] cp) _ := pe_bm0 PySem.F.plainAttrs_list PySem.F.slot_list_pop PySem.F.type_list_pop mt_pop v0' rfl hline
    have room := g.room
    refine (pss_cons (ps_if (pt_cmpR (op_cmpD (by omega) .Eq) (pe_callB blt_len hlen.1 (gl_free g.toXG (n := "len") (by decide)) (by decide +kernel) (pa_cons v0 pa_nil)) pe_int (by rfl)) (pss_one (ps_ret pe_int)) pss_nil)
      (pss_one (ps_ret (pe_op op_mod (pe_callTy blt_int hint.1 (gl_free g.toXG (n := "int") (by decide)) (by decide +kernel) (pa_cons pop pa_nil)) v1)))).w ?_
    obtain ⟨hst, hstl⟩ := rel
    -- the slots
    refine ⟨.ref a, by simp [L2.start], NoT, [.list (st.reverse.map PyData.int)], .int (st.length : Nat), fun _ _ z => z, ?_, by simp [bltD, one, lenD], fun v H1 rv e1 => ?_⟩
    · refine .cons (.mkList id hst (by simpa using hstl) ?_) .nil
      generalize st.reverse = l
      induction l with
      | nil => exact .nil
      | cons x xs ih => exact .cons .mkInt ih
    · have ev := rv.int_inv
      subst ev
      have hst1 : H1 a = some (.lst (st.reverse.map V.int)) := e1 _ _ id hst
      refine ⟨NoT, .int (st.length : Nat), .int 0, .bool (decide ((st.length : Int) = 0)), fun _ _ z => z, .mkInt, .mkInt, ?_, fun v2 H2 rv2 e2 => ⟨_, rv2.bool_inv, ?_⟩⟩
      · have e1 : okD (.int (st.length : Nat)) = true := rfl
        have e2 : okD (.int 0) = true := rfl
        unfold cmpD
        simp only [e1, e2, Bool.and_self, if_true]
        rfl
      · have hst2 : H2 a = some (.lst (st.reverse.map V.int)) := e2 _ _ id hst1
        cases st with
        | nil =>
          obtain ⟨d, rfl⟩ : ∃ d, ds = [d] := by
            have := r.length
            rw [hl'] at this
            match ds, this with
            | [d], _ => exact ⟨d, rfl⟩
          show Q (.int 0) H2
          unfold m_take at hm
          cases d with
          | int b =>
            refine hm (.int 0) H2 .mkInt (fun b u nl hb => e2 _ _ id (e1 _ _ id hb)) ⟨hst2, Nat.zero_le _⟩
          | _ => exact hm.elim
        | cons x rest =>
          obtain ⟨d, rfl⟩ : ∃ d, ds = [d] := by
            have := r.length
            rw [hl'] at this
            match ds, this with
            | [d], _ => exact ⟨d, rfl⟩
          cases d with
          | int b =>
            obtain ⟨v, t, rfl, rb, rt⟩ := r.cons_inv
            have : t = [] := rt.nil_inv
            subst this
            have := rb.int_inv
            subst this
            by_cases hb0 : 0 < b
            · have e : m_take [.int b] (x :: rest) = .ok (.int (x % b), rest) := by
                show (if 0 < b then _ else _) = _
                rw [if_pos hb0]
              rw [e] at hm
              have hd : decide ((((x :: rest).length : Nat) : Int) = 0) = false := by simp; omega
              rw [hd]
              have hxs : (x :: rest).reverse.map V.int = rest.reverse.map V.int ++ [V.int x] := by simp
              rw [hxs] at hst2
              have hdl : (rest.reverse.map V.int ++ [V.int x]).dropLast = rest.reverse.map V.int := by simp
              -- draws.pop(), int(..), % bound
              refine ⟨.ref a, by simp [L2.start], .inl ⟨rfl, _, .inl (.inl hst2)⟩, a, _, V.int x, rfl, rfl, hst2, by simp, ?_⟩
              rw [hdl]
              refine ⟨NoT, [.int x], .int x, fun _ _ z => z, .cons .mkInt .nil, rfl, fun v3 H3 rv3 e3 => ?_⟩
              have := rv3.int_inv
              subst this
              refine ⟨.int b, by simp [L2.start], x, b, rfl, rfl, hb0, ?_⟩
              refine hm (.int (x % b)) H3 .mkInt (fun c u nl hc => ?_) ⟨e3 _ _ id upd_same, by simp at hstl; omega⟩
              refine e3 _ _ id ?_
              rw [upd_ne nl]
              exact e2 _ _ id (e1 _ _ id hc)
            · have e : m_take [.int b] (x :: rest) = .bad := by
                show (if 0 < b then _ else _) = _
                rw [if_neg hb0]
              rw [e] at hm; exact hm.elim
          | _ => exact hm.elim
  · cases h
end
end Mir
namespace Mir
open PySem PySem.Spec PyProof.Rows L2
section
variable {S : Type} {k : SK S} {N : List Str} {ds : Option Nat}
/-- some statements, then the rest -/
theorem pre_then {X : Cx} {sp : Scope} (g : XS X k N ds sp) {rest : List Stmt} {l : List Nat} : ∀ (c : Sts S) (lv : List Nat) (pre : List Stmt), NeedSs (gx X) k c → chSs N ds sp lv [] c pre = some (some l) →
    ∀ (T0 : Addr → Prop) (H0 : Hp) (P : Addr → HO → Prop) (O : Nat → Option Addr) (ρ : Env) (st : S) (σ : L2.St) (H : Hp) (D : Ends) (W : WX) (ρ' : Env) (st' : S), (∀ i ∈ lv, O i ≠ none) → EnvO k T0 H0 P O ρ st σ H → Takes X W → runs c ρ st = .ok (.nx ρ', st') →
      (∀ σ' H' O', (∀ i ∈ l, O' i ≠ none) → EnvO k T0 H0 P O' ρ' st' σ' H' → wSs X rest D σ' H') → wSs X (pre ++ rest) D σ H
  | .nil, lv, pre, nd, h, T0, H0, P, O, ρ, st, σ, H, D, W, ρ', st', hO, en, t, hr, q => by
    simp only [chSs] at h
    split at h
    · cases h; cases hr; exact q σ H O hO en
    · cases h
  | .cons a r, lv, pre, nd, h, T0, H0, P, O, ρ, st, σ, H, D, W, ρ', st', hO, en, t, hr, q => by
    simp only [chSs] at h
    split at h
    · rename_i s0 rest0
      split at h
      · rename_i l1 hl1
        refine (pss_cons ps_w pss_w).w ?_
        refine chS_ok g a lv [] s0 _ nd.1 hl1 T0 H0 P O ρ st σ H { D with nx := fun σ' H' => wSs X (rest0 ++ rest) D σ' H' } W hO en t ?_
        simp only [runs] at hr
        unfold bnd at hr
        obtain ⟨⟨fl, st1⟩, h1, h2⟩ := bind_ok hr
        rw [h1]
        cases fl with
        | nx ρ1 =>
          intro l' hl' σ' H' O' hO' en'
          cases hl'
          exact pre_then g r l1 rest0 nd.2 h T0 H0 P O' ρ1 st1 σ' H' D W ρ' st' hO' en' t h2 q
        | ret d => cases h2
        | brk ρ1 => cases h2
        | cnt ρ1 => cases h2
      · cases h
      · cases h
    · cases h
end
theorem repL_ints {T : Addr → Prop} {H : Hp} : ∀ {st : List Int} {xs : List V}, RepL T H (st.map PyData.int) xs → xs = st.map V.int
  | [], xs, h => h.nil_inv
  | i :: st, xs, h => by
    obtain ⟨x, t, rfl, h1, h2⟩ := RepL.cons_inv h
    rw [h1.int_inv, repL_ints h2]; rfl
/-- a script that is walked -/
theorem JW.script {T : Addr → Prop} {H : Hp} {K : PySem.W.Frag} {a : Addr} {ns : List Int} (n : ∀ o, H a = some o → ¬ T a) (h : SqL K H a (ns.map V.int)) : JW T (ns.map PyData.int) (Itl K a) H := fun i H' T' m dm => by
  have h' : SqL K H' a (ns.map V.int) := by
    rcases h with (h | ⟨o, h⟩) | h
    · exact .inl (.inl (m.h a _ (n _ h) h))
    · exact .inl (.inr ⟨o, m.h a _ (n _ h) h⟩)
    · exact .inr h
  have hl : (ns.map V.int).length = (ns.map PyData.int).length := by simp
  refine ⟨fun hi => ?_, fun hi => ⟨_, h', by rw [hl]; exact hi⟩⟩
  have hi' : i < ns.length := by simpa using hi
  refine ⟨⟨_, V.int ns[i], h', by simp [hi']⟩, fun y H2 hy => ?_⟩
  obtain ⟨rfl, hy⟩ := hy
  have e := hy _ h'
  rw [List.getElem?_map, List.getElem?_eq_getElem hi'] at e
  cases e
  exact ⟨⟨.int ns[i], by simp [hi'], .mkInt⟩, .refl⟩
/-- what the def that makes the draws promises -/
def spDr (K : PySem.W.Frag) : Sp := fun vs H Q E => ∃ (a : Addr) (ns : List Int), vs = [.ref a] ∧ ns.length ≤ 63 ∧ SqL K H a (ns.map V.int) ∧ ∀ p H' (st : List Int), H' p = some (.lst (st.map V.int)) → st.length ≤ sizeLine → Q (.ref p) H'
/-- the parts of its text -/
def cutFor (x : Str) : List Stmt → Option (List Stmt × Expr × List Stmt × List Stmt)
  | .For tg (.Name y p) body [] pos :: rest => if y = x then some ([], tg, body, rest) else (cutFor x rest).map fun q => (.For tg (.Name y p) body [] pos :: q.1, q.2)
  | s :: rest => (cutFor x rest).map fun q => (s :: q.1, q.2)
  | [] => none
theorem cutFor_ok {x : Str} : ∀ {bd : List Stmt} {pre body rest : List Stmt} {tg : Expr}, cutFor x bd = some (pre, tg, body, rest) → ∃ p pos, bd = pre ++ .For tg (.Name x p) body [] pos :: rest
  | [], _, _, _, _, h => by cases h
  | s :: bd, pre, body, rest, tg, h => by
    unfold cutFor at h
    split at h
    · rename_i tg' y p body' pos rest' heq
      cases heq
      split at h
      · rename_i hy
        cases h
        subst hy
        exact ⟨p, pos, rfl⟩
      · cases q : cutFor x bd with
        | none => rw [q] at h; cases h
        | some q' =>
          rw [q] at h
          obtain ⟨q1, q2, q3, q4⟩ := q'
          cases h
          obtain ⟨p', pos', e⟩ := cutFor_ok q
          exact ⟨p', pos', by rw [e]; rfl⟩
    · rename_i heq
      cases heq
      cases q : cutFor x bd with
      | none => rw [q] at h; cases h
      | some q' =>
        rw [q] at h
        obtain ⟨q1, q2, q3, q4⟩ := q'
        cases h
        obtain ⟨p', pos', e⟩ := cutFor_ok q
        exact ⟨p', pos', by rw [e]; rfl⟩
    · cases ‹_ = _›
/-- the outcome -/
def drawsR (n cell : Nat) (p1 p2 p3 : Sts Unit) (ns : List Int) : R (Fl × Unit) := (runs p1 (List.replicate n none) ()).bind fun q => match q.1 with
  | .nx ρ => (forGo (fun x ρ => bnd (lft (asg (.nm cell) x ρ)) fun ρ' => runs p2 ρ') (ns.map PyData.int) ρ q.2).bind fun q => (match q.1 with
    | .nx ρ => runs p3 ρ q.2
    | _ => .bad)
  | _ => .bad
section
variable {P : Program} {w : World} {K : PySem.W.Frag} {mg : Str → Option Value} {base : Heap}
theorem draws_ok {pr : Arguments} {bd pre lb rest : List Stmt} {etg : Expr} {sc : Scope} {f : Addr} {fd : FuncData} {N : List Str} {p1 p2 p3 : Sts Unit} {cell : Nat} {l1 li : List Nat} {lb2 l3 : Option (List Nat)} (F : FnD K "_law_draws" pr bd sc f fd) (S : FnScope N ["script"] sc) (fr : ∀ x ∈ bltNames, mg (Str.ofString x) = none)
    (hcut : cutFor "script" bd = some (pre, etg, lb, rest)) (h1 : chSs N (some 0) sc [] [] p1 pre = some (some l1)) (h2 : chSs N (some 0) sc li li p2 lb = some lb2) (h3 : chSs N (some 0) sc li [] p3 rest = some l3)
    (hli : subB li l1 = true) (hlb : subO li lb2 = true) (htg : tgB N sc (.nm cell) etg = true) (hc0 : cell ≠ 0) (hcl : li.contains cell = false) (hv : visB sc "script" = true) (hN0 : N[0]? = some ("script" : Str))
    (nd : ∀ A, Room 0 A → ∀ a, NeedSs ⟨P, w, K, mg, base, A⟩ (kA a) p1 ∧ NeedSs ⟨P, w, K, mg, base, A⟩ (kA a) p2 ∧ NeedSs ⟨P, w, K, mg, base, A⟩ (kA a) p3)
    (sem : ∀ ns : List Int, ns.length ≤ 63 → ∃ st : List Int, drawsR N.length cell p1 p2 p3 ns = .ok (.ret (.list (st.map PyData.int)), ()) ∧ st.length ≤ sizeLine) : FnOk P w K mg base (L2.CX P w) 1 f fd ["script"] (spDr K) := by
  refine F.ok S (fun vs H Q E h => ?_) fun cdv A outer s H vs Q E hr hsp => ⟨_, pss_w, ?_⟩
  · obtain ⟨a, ns, rfl, _⟩ := h; rfl
  obtain ⟨a, ns, rfl, hns, hS, hQ⟩ := hsp
  obtain ⟨st, hd, hst⟩ := sem ns hns
  obtain ⟨p0, pos0, rfl⟩ := cutFor_ok hcut
  have g := xs_of (P := P) (w := w) (K := K) (mg := mg) (base := base) (k := kA a) (qual := "_law_draws") (f := f) (cd := cdv) (outer := outer) (H := H) (E := E) (ds := some 0) S fr hr rfl
  have tk : Takes (cxOf (L2.CX P w) P w K mg base N "_law_draws" sc f cdv A outer s H E) (fun cls d _ H => E cls d H) := takes_of rfl rfl rfl rfl
  obtain ⟨nd1, nd2, nd3⟩ := nd _ hr a
  have nd1 : NeedSs (gx (cxOf (L2.CX P w) P w K mg base N "_law_draws" sc f cdv A outer s H E)) (kA a) p1 := nd1
  have nd2 : NeedSs (gx (cxOf (L2.CX P w) P w K mg base N "_law_draws" sc f cdv A outer s H E)) (kA a) p2 := nd2
  have nd3 : NeedSs (gx (cxOf (L2.CX P w) P w K mg base N "_law_draws" sc f cdv A outer s H E)) (kA a) p3 := nd3
  have hKX : (cxOf (L2.CX P w) P w K mg base N "_law_draws" sc f cdv A outer s H E).K = K := rfl
  generalize hX : cxOf (L2.CX P w) P w K mg base N "_law_draws" sc f cdv A outer s H E = X at g tk nd1 nd2 nd3 hKX ⊢
  have hlen : 1 ≤ N.length := FnScope.le S
  have en : EnvO (kA a) (fun _ => False) H (fun b o => b = a ∧ H a = some o) (fun _ => none) (List.replicate N.length none) () (L2.start N [.ref a]) H :=
    { v0 := fun i d hd _ => (by rw [List.getElem?_replicate] at hd; split at hd <;> cases hd), v1 := fun _ _ h => (nomatch h), inj := fun _ _ _ h => (nomatch h), new := fun _ _ h => (nomatch h), ext := .refl, dom0 := fun _ h => h.elim, loc := fun _ h => h.elim, rel := trivial,
      ds := fun p h => (by cases h; rfl), len := (by unfold L2.start; simp; omega), kept := fun b o ⟨e1, e2⟩ => ⟨fun t => t.elim id fun ⟨_, z⟩ => (nomatch z), by rw [e1]; exact e2⟩ }
  unfold drawsR at hd
  obtain ⟨⟨fl1, u1⟩, hd1, hd⟩ := bind_ok hd
  cases fl1 with
  | ret d => cases hd
  | brk ρ => cases hd
  | cnt ρ => cases hd
  | nx ρ1 =>
    obtain ⟨⟨fl2, u2⟩, hd2, hd⟩ := bind_ok hd
    cases fl2 with
    | ret d => cases hd
    | brk ρ => cases hd
    | cnt ρ => cases hd
    | nx ρ2 =>
      refine pre_then g p1 [] pre nd1 h1 _ H _ _ _ () _ H _ _ ρ1 u1 (fun i hi => by cases hi) en tk hd1 fun σ' H' O' hO' en' => ?_
      refine (pss_cons ps_w pss_w).w ?_
      have hnd : X.N.Nodup := by rw [g.n]; exact g.nd
      have vs : PE X (.Name "script" p0) (tVar 0) := pe_var (by rw [g.n]; exact hN0) (visB_ok g.sc hv)
      refine wS.at fun pins sh I => (ps_for g.passes g.calm (pi_list vs) pg_w pss_w (by intro _; rfl)).w ?_
      have hT : ∀ o, H' a = some o → ¬ TO (fun _ => False) O' a := fun o ho => by
        intro t
        rcases t with t | ⟨i, t⟩
        · exact t
        · have hn := en'.new i a t
          rcases hS with (h | ⟨o2, h⟩) | h
          · rw [h] at hn; cases hn
          · rw [h] at hn; cases hn
          · obtain ⟨o2, its, n, hK, _⟩ := h
            have := (I.bs a o2 (I.ok.mod.kin a o2 (by rw [hKX]; exact hK))).2
            rw [ho] at this; cases this
      have hS' : SqL X.K H' a (ns.map V.int) := by
        rw [hKX]
        rcases hS with (h | ⟨o, h⟩) | h
        · exact .inl (.inl (en'.kept a _ ⟨rfl, h⟩).2)
        · exact .inl (.inr ⟨o, (en'.kept a _ ⟨rfl, h⟩).2⟩)
        · exact .inr h
      refine ⟨.ref a, en'.ds _ rfl, a, rfl, ⟨_, hS'⟩, ?_⟩
      have tgo : TgOk X (.nm cell) etg := tgB_of (X := X) (fun i e q => tgN_def g.n g.sc g.fn q) htg
      refine for_core (li := li) (lb := lb2) (ll := []) hnd g.calm tgo (chSs_ok g p2 li li lb lb2 nd2 h2) (subO_ok hlb) (fun i hi => ?_) (tgOk_lt tgo) (fun p hp => ?_) (by simp [tgs]) (JW.script hT hS') (fun i hi => hO' i (subB_ok hli i hi)) en' tk ?_
      · have : i = cell := by simpa [tgs] using hi
        subst this
        intro z
        rw [List.contains_iff_mem.mpr z] at hcl
        cases hcl
      · cases hp
        simpa [tgs] using Ne.symm hc0
      · rw [hd2]
        intro l hl σ2 H2 O2 hO2 en2
        cases hl
        refine chSs_ok g p3 li [] rest l3 nd3 h3 _ H _ O2 ρ2 u2 σ2 H2 _ _ hO2 en2 tk ?_
        have hd3 : runs p3 ρ2 u2 = .ok (.ret (.list (st.map PyData.int)), ()) := hd
        rw [hd3]
        intro v H3 rv e3 _
        obtain ⟨p, xs, rfl, _, hp, hz, rr⟩ := rv.list_inv
        have := repL_ints rr
        subst this
        exact hQ p H3 st hp hst
end
end Mir

set_option Elab.async false
set_option linter.all false
set_option maxRecDepth 100000
set_option maxHeartbeats 4000000
/-! Mir, part Q: a law. -/
namespace Mir
open PySem PySem.Spec PyProof.Rows L2

def spLaw (K : PySem.W.Frag) : Sp := fun vs H Q E => ∃ (a : Addr) (ns : List Int), vs = [.ref a] ∧ ns.length ≤ 63 ∧ SqL K H a (ns.map V.int) ∧ ∀ H', Q (.bl true) H'
/-- draws = _law_draws(script), and the rest -/
def lawB : List Stmt → Option (List Stmt)
  | .Assign [.Name d _] (.Call (.Name l _) [.Name x _] [] _) _ :: rest => if decide (("draws" : Str) = d) && decide (("_law_draws" : Str) = l) && decide (("script" : Str) = x) then some rest else none
  | _ => none
section
variable {P : Program} {w : World} {K : PySem.W.Frag} {mg : Str → Option Value} {base : Heap}
theorem law_ok {pr : Arguments} {bd rest : List Stmt} {sc : Scope} {f fD : Addr} {fd fdD : FuncData} {N : List Str} {body : Sts (List Int)} {j : Nat} {lv2 : Option (List Nat)} (F : FnD K "law" pr bd sc f fd) (S : FnScope N ["script"] sc) (fr : ∀ x ∈ bltNames, mg (Str.ofString x) = none)
    (FD : FnOk P w K mg base (L2.CX P w) 1 fD fdD ["script"] (spDr K)) (gD : mg "_law_draws" = some (.ref fD)) (kD : PySem.W.keepIn K (.ref fD) = true) (bD : Binds K fdD ["script"] []) (hj : 1 ≤ j)
    (hb : lawB bd = some rest) (hN0 : N[0]? = some ("script" : Str)) (hN1 : N[1]? = some ("draws" : Str)) (hv : visB sc "script" = true) (hd : locB sc "draws" = true) (hg : glB sc "_law_draws" = true)
    (hc : chSs N (some 1) sc [] [] body rest = some lv2) (nd : ∀ A, Room j A → ∀ a, NeedSs ⟨P, w, K, mg, base, A⟩ (kR 1 a) body)
    (sem : ∀ st : List Int, ∃ st', runs body (List.replicate N.length none) st = .ok (.ret (.bool true), st')) : FnOk P w K mg base (L2.CX P w) (j + 1) f fd ["script"] (spLaw K) := by
  refine F.ok S (fun vs H Q E h => ?_) fun cdv A outer s H vs Q E hr hsp => ⟨_, pss_w, ?_⟩
  · obtain ⟨a, ns, rfl, _⟩ := h; rfl
  obtain ⟨a, ns, rfl, hns, hS, hQ⟩ := hsp
  unfold lawB at hb
  split at hb
  · rename_i d p1 l p2 x p3 p4 p5 rest'
    split at hb
    · rename_i hz
      cases hb
      simp only [Bool.and_eq_true, decide_eq_true_eq] at hz
      obtain ⟨⟨rfl, rfl⟩, rfl⟩ := hz
      have tk : Takes (cxOf (L2.CX P w) P w K mg base N "law" sc f cdv A outer s H E) (fun cls d _ H => E cls d H) := takes_of rfl rfl rfl rfl
      have nd' : ∀ a, NeedSs (gx (cxOf (L2.CX P w) P w K mg base N "law" sc f cdv A outer s H E)) (kR 1 a) body := nd _ hr
      have gs : ∀ p, XS (cxOf (L2.CX P w) P w K mg base N "law" sc f cdv A outer s H E) (kR 1 p) N (some 1) sc := fun p => xs_of S fr hr rfl
      have FD' : FnOk (cxOf (L2.CX P w) P w K mg base N "law" sc f cdv A outer s H E).prog (cxOf (L2.CX P w) P w K mg base N "law" sc f cdv A outer s H E).w (cxOf (L2.CX P w) P w K mg base N "law" sc f cdv A outer s H E).K (cxOf (L2.CX P w) P w K mg base N "law" sc f cdv A outer s H E).mg (cxOf (L2.CX P w) P w K mg base N "law" sc f cdv A outer s H E).base (L2.CX P w) 1 fD fdD ["script"] (spDr K) := FD
      have hrX : Room 1 (cxOf (L2.CX P w) P w K mg base N "law" sc f cdv A outer s H E).A := hr.mono hj
      have gDX : (cxOf (L2.CX P w) P w K mg base N "law" sc f cdv A outer s H E).mg "_law_draws" = some (.ref fD) := gD
      have kDX : PySem.W.keepIn (cxOf (L2.CX P w) P w K mg base N "law" sc f cdv A outer s H E).K (.ref fD) = true := kD
      have bDX : Binds (cxOf (L2.CX P w) P w K mg base N "law" sc f cdv A outer s H E).K fdD ["script"] [] := bD
      have eP : (cxOf (L2.CX P w) P w K mg base N "law" sc f cdv A outer s H E).prog = P := rfl
      have eW : (cxOf (L2.CX P w) P w K mg base N "law" sc f cdv A outer s H E).w = w := rfl
      generalize hX : cxOf (L2.CX P w) P w K mg base N "law" sc f cdv A outer s H E = X at gs tk nd' FD' hrX gDX kDX bDX eP eW ⊢
      have g := gs a
      obtain ⟨hgl, hgd⟩ := glB_ok g.sc hg
      have hnd : X.N.Nodup := by rw [g.n]; exact g.nd
      have vs : PE X (.Name "script" p3) (tVar 0) := pe_var (by rw [g.n]; exact hN0) (visB_ok g.sc hv)
      have tk' : ∀ σ, PassesAt (L2.CX P w) X σ (WE (fun cls d _ H => E cls d H) σ) := fun σ => by
        have := passAt tk σ
        rw [eP, eW] at this
        exact this
      refine (pss_cons (ps_set hnd (by rw [g.n]; exact hN1) (locB_Loc g.sc hd) (pe_callS (E := WE (fun cls d _ H => E cls d H)) FD' hrX hgl gDX kDX bDX tk' (pa_cons vs pa_nil) hgd rfl rfl) rfl (.inl (g.fn _))) pss_w).w ?_
      refine ⟨.ref a, rfl, a, ns, rfl, hns, hS, fun p H' st hp hst => ?_⟩
      have hlen : 2 ≤ N.length := (List.getElem?_eq_some_iff.mp hN1).1
      have en : EnvO (kR 1 p) (fun b => b = p) H' (fun _ _ => False) (fun _ => none) (List.replicate N.length none) st.reverse ((L2.start N [.ref a]).set 1 (some (.ref p))) H' :=
        { v0 := fun i d hd _ => (by rw [List.getElem?_replicate] at hd; split at hd <;> cases hd), v1 := fun _ _ h => (nomatch h), inj := fun _ _ _ h => (nomatch h), new := fun _ _ h => (nomatch h), ext := .refl, dom0 := fun b h => ⟨.lst (st.map V.int), (by subst h; exact hp), trivial⟩, loc := fun _ h => h, rel := ⟨by rw [List.reverse_reverse]; exact hp, by rw [List.length_reverse]; exact hst⟩,
          ds := fun q h => (by cases h; exact List.getElem?_set_self (by unfold L2.start; simp; omega)), len := (by unfold L2.start; simp; omega), kept := fun _ _ h => h.elim }
      obtain ⟨st', hs⟩ := sem st.reverse
      refine chSs_ok (gs p) body [] [] _ lv2 (nd' p) hc _ H' _ _ _ _ _ H' _ _ (fun i hi => by cases hi) en tk ?_
      rw [hs]
      intro v H2 rv _ _
      rw [rv.bool_inv]
      exact hQ H2
    · cases hb
  · cases hb
end
end Mir

set_option Elab.async false
set_option linter.all false
set_option maxRecDepth 100000
set_option maxHeartbeats 4000000
/-! Mir, part R: what the head tells. -/
namespace Mir
open PySem PySem.Spec PyProof.Rows L2

abbrev AlM : Type := He.AlD × Bool
def obsM (n : Nat) (fa : List He.Fa) (fn : List He.DefD) (ex : PySem.W.Frag → Bool) (g : Addr → Option Obj) : AlM := (He.obsD fa fn (He.frG g (He.asD g n)), ex (He.frG g (He.asD g n)))
def hookM (n : Nat) (fa : List He.Fa) (fn : List He.DefD) (ex : PySem.W.Frag → Bool) : PySem.W.Hook where
  α := AlM
  obs := fun s => obsM n fa fn ex s.heap.get?
  val := fun _ => (He.valD fn, true)
  says := fun _ h => ∃ K : PySem.W.Frag, K.In h ∧ He.SaysD fa fn K ∧ ex K = true
  of := fun _ _ e => ⟨_, He.frG_in, congrArg (fun z : AlM => z.1) e, congrArg (fun z : AlM => z.2) e⟩
  keeps := fun _ _ _ ⟨K, a, b⟩ k => ⟨K, PySem.W.Frag.In.keeps a k, b⟩
theorem obsM_eq {n : Nat} {fa : List He.Fa} {fn : List He.DefD} {ex : PySem.W.Frag → Bool} {g : Addr → Option Obj} {s : Shared} (h : ∀ a, g a = s.heap.get? a) : obsM n fa fn ex g = (hookM n fa fn ex).obs s := by
  have e : g = s.heap.get? := funext h
  subst e
  rfl
section
variable {K : PySem.W.Frag} {h : Heap} {mg : Str → Option Value}
/-- the module's name x is the def d -/
def DefAt (K : PySem.W.Frag) (mg : Str → Option Value) (x : Str) (st : Stmt) : Prop := ∃ f fd, FnD K x (defArgs st) (defBody st) (defScope st) f fd ∧ mg x = some (.ref f)
def RK (K : PySem.W.Frag) (mg : Str → Option Value) (x : Str) : Prop := ∃ (C : Addr) (bmB : List Value) (B newId initId : String), ExcBaseFacts B newId initId bmB ∧ PySem.W.excIn K C bmB newId = true ∧ mg x = some (.ref C) ∧ PySem.W.keepIn K (.ref C) = true ∧
  PySem.W.subIn K (.ref C) (.type "BaseException") = some true ∧ PySem.W.typeIn K (.ref C) = some (.type "type")
theorem rk_of (X : K.In h) (G : h.Ns mainGlobals mg) {x : Str} (c1 : (He.Fa.glo x).ok K = true) (c2 : (He.Fa.exc x).ok K = true) : RK K mg x := by
  obtain ⟨a, b, c, d⟩ := He.exc_ok c2
  exact ⟨_, He.veBase, _, _, _, PySem.F.excBase_ValueError, a, He.glo_ok X G c1, b, c, d⟩
theorem gl_int (X : K.In h) (G : h.Ns mainGlobals mg) {x : Str} {i : Int} (c : (He.Fa.int x i).ok K = true) : GlobOk mg x (.int i) := by
  obtain ⟨t, e⟩ := He.int_ok X G c
  exact ⟨_, .int i, e, ⟨t, rfl⟩, fun T H => .mkInt⟩
theorem gl_str (X : K.In h) (G : h.Ns mainGlobals mg) {x z : Str} (hz : z.length ≤ sizeLine) (c : (He.Fa.str x z).ok K = true) : GlobOk mg x (.str z) := by
  obtain ⟨t, e⟩ := He.str_ok X G c
  exact ⟨_, .str z, e, ⟨t, rfl⟩, fun T H => .mkStr hz⟩
def gdB (K : PySem.W.Frag) (x : Str) (kvs : List (Int × Int)) : Bool := kdiB K (He.ga K x) kvs
def GD (K : PySem.W.Frag) (mg : Str → Option Value) (x : Str) (kvs : List (Int × Int)) : Prop := ∃ a, mg x = some (.ref a) ∧ kdiB K a kvs = true
theorem gd_of (X : K.In h) (G : h.Ns mainGlobals mg) {x : Str} {kvs : List (Int × Int)} (c1 : (He.Fa.glo x).ok K = true) (c2 : gdB K x kvs = true) : GD K mg x kvs := ⟨_, He.glo_ok X G c1, c2⟩
end
section
variable {P : Program} {w : World} {K : PySem.W.Frag} {mg : Str → Option Value} {base : Heap}
theorem def_okS {x : Str} {st : Stmt} {N ps : List Str} {body : Sts Unit} {j : Nat} (F : DefAt K mg x st) (S : FnScope N ps (defScope st)) (fr : ∀ x ∈ bltNames, mg (Str.ofString x) = none) (hb : ∀ f fd, FnD K x (defArgs st) (defBody st) (defScope st) f fd → Binds K fd ps [])
    (hc : (chSs N none (defScope st) [] [] body (defBody st)).isSome = true) (nd : ∀ A, Room j A → NeedSs ⟨P, w, K, mg, base, A⟩ k0 body) : FnG P w K mg base (j + 1) x (defP N.length body) ps.length := by
  obtain ⟨f, fd, F, hx⟩ := F
  obtain ⟨lv, e⟩ := Option.isSome_iff_exists.mp hc
  exact def_ok F S fr hx (hb f fd F) e nd
theorem defD_okS {x : Str} {st : Stmt} {N ps : List Str} {body : Sts (List Int)} {j n : Nat} (F : DefAt K mg x st) (S : FnScope N ps (defScope st)) (fr : ∀ x ∈ bltNames, mg (Str.ofString x) = none) (hb : ∀ f fd, FnD K x (defArgs st) (defBody st) (defScope st) f fd → Binds K fd ps [])
    (hn : ps.length = n + 1) (hc : (chSs N (some 0) (defScope st) [] [] body (defBody st)).isSome = true) (nd : ∀ A, Room j A → ∀ a, NeedSs ⟨P, w, K, mg, base, A⟩ (kR 0 a) body) : FnGD P w K mg base (j + 1) x (defD N.length body) n := by
  obtain ⟨f, fd, F, hx⟩ := F
  obtain ⟨lv, e⟩ := Option.isSome_iff_exists.mp hc
  exact defD_ok F S fr hx (hb f fd F) hn e nd
theorem FnG.mono {x : Str} {m : List PyData → R PyData} {n i j : Nat} (h : FnG P w K mg base i x m n) (hl : i ≤ j) : FnG P w K mg base j x m n := by
  obtain ⟨f, fd, ps, F, r⟩ := h
  exact ⟨f, fd, ps, F.mono hl, r⟩
/-- a def that calls itself: nothing is promised of it ahead of the first round -/
theorem FnG.bad {x : Str} {st : Stmt} {ps : List Str} {n : Nat} (F : DefAt K mg x st) (hb : ∀ f fd, FnD K x (defArgs st) (defBody st) (defScope st) f fd → Binds K fd ps []) (hn : ps.length = n) : FnG P w K mg base 0 x (fun _ => .bad) n := by
  obtain ⟨f, fd, F, hx⟩ := F
  refine ⟨f, fd, ps, ⟨fun vs H Q E h => ?_, fun A outer s H args us vs Q E _ _ _ _ h => ?_⟩, hx, F.kp, hb f fd F⟩
  · rw [hn]; exact h.1
  · obtain ⟨_, _, _, _, _, h⟩ := h
    exact h.elim
/-- the whole look at the def that makes the draws -/
def drB (N : List Str) (sc : Scope) (bd : List Stmt) (p1 p2 p3 : Sts Unit) (cell : Nat) (l1 li : List Nat) : Bool := match cutFor "script" bd with
  | some (pre, etg, lb, rest) => decide (chSs N (some 0) sc [] [] p1 pre = some (some l1)) && (match chSs N (some 0) sc li li p2 lb with
    | some lb2 => subO li lb2
    | none => false) && (chSs N (some 0) sc li [] p3 rest).isSome && subB li l1 && tgB N sc (.nm cell) etg && decide (cell ≠ 0) && !li.contains cell && visB sc "script" && decide (N[0]? = some ("script" : Str))
  | none => false
theorem draws_okB {st : Stmt} {N : List Str} {p1 p2 p3 : Sts Unit} {cell : Nat} {l1 li : List Nat} (F : DefAt K mg "_law_draws" st) (S : FnScope N ["script"] (defScope st)) (fr : ∀ x ∈ bltNames, mg (Str.ofString x) = none) (hb : ∀ f fd, FnD K "_law_draws" (defArgs st) (defBody st) (defScope st) f fd → Binds K fd ["script"] [])
    (h : drB N (defScope st) (defBody st) p1 p2 p3 cell l1 li = true) (nd : ∀ A, Room 0 A → ∀ a, NeedSs ⟨P, w, K, mg, base, A⟩ (kA a) p1 ∧ NeedSs ⟨P, w, K, mg, base, A⟩ (kA a) p2 ∧ NeedSs ⟨P, w, K, mg, base, A⟩ (kA a) p3)
    (sem : ∀ ns : List Int, ns.length ≤ 63 → ∃ st : List Int, drawsR N.length cell p1 p2 p3 ns = .ok (.ret (.list (st.map PyData.int)), ()) ∧ st.length ≤ sizeLine) :
    ∃ f fd, FnOk P w K mg base (L2.CX P w) 1 f fd ["script"] (spDr K) ∧ mg "_law_draws" = some (.ref f) ∧ PySem.W.keepIn K (.ref f) = true ∧ Binds K fd ["script"] [] := by
  obtain ⟨f, fd, F, hx⟩ := F
  unfold drB at h
  split at h
  · rename_i pre etg lb rest hcut
    simp only [Bool.and_eq_true, decide_eq_true_eq, Bool.not_eq_true'] at h
    obtain ⟨⟨⟨⟨⟨⟨⟨⟨a1, a2⟩, a3⟩, a4⟩, a5⟩, a6⟩, a7⟩, a8⟩, a9⟩ := h
    split at a2
    · rename_i lb2 hlb
      obtain ⟨l3, e3⟩ := Option.isSome_iff_exists.mp a3
      exact ⟨f, fd, draws_ok F S fr hcut a1 hlb e3 a4 a2 a5 a6 a7 a8 a9 nd sem, hx, F.kp, hb f fd F⟩
    · cases a2
  · cases h
def lwB (N : List Str) (sc : Scope) (bd : List Stmt) (body : Sts (List Int)) : Bool := match lawB bd with
  | some rest => (chSs N (some 1) sc [] [] body rest).isSome && decide (N[0]? = some ("script" : Str)) && decide (N[1]? = some ("draws" : Str)) && visB sc "script" && locB sc "draws" && glB sc "_law_draws"
  | none => false
theorem law_okB {st : Stmt} {N : List Str} {body : Sts (List Int)} {j : Nat} {f : Addr} {fd : FuncData} (F : FnD K "law" (defArgs st) (defBody st) (defScope st) f fd) (S : FnScope N ["script"] (defScope st)) (fr : ∀ x ∈ bltNames, mg (Str.ofString x) = none)
    (FD : ∃ f fd, FnOk P w K mg base (L2.CX P w) 1 f fd ["script"] (spDr K) ∧ mg "_law_draws" = some (.ref f) ∧ PySem.W.keepIn K (.ref f) = true ∧ Binds K fd ["script"] []) (hj : 1 ≤ j)
    (h : lwB N (defScope st) (defBody st) body = true) (nd : ∀ A, Room j A → ∀ a, NeedSs ⟨P, w, K, mg, base, A⟩ (kR 1 a) body)
    (sem : ∀ st : List Int, ∃ st', runs body (List.replicate N.length none) st = .ok (.ret (.bool true), st')) : FnOk P w K mg base (L2.CX P w) (j + 1) f fd ["script"] (spLaw K) := by
  obtain ⟨fD, fdD, D1, D2, D3, D4⟩ := FD
  unfold lwB at h
  split at h
  · rename_i rest hb
    simp only [Bool.and_eq_true, decide_eq_true_eq] at h
    obtain ⟨⟨⟨⟨⟨a1, a2⟩, a3⟩, a4⟩, a5⟩, a6⟩ := h
    obtain ⟨l, e⟩ := Option.isSome_iff_exists.mp a1
    exact law_ok F S fr D1 D2 D3 D4 hj hb a2 a3 a4 a5 a6 e nd sem
  · cases h
end
end Mir

set_option Elab.async false
set_option linter.all false
set_option maxRecDepth 100000
set_option maxHeartbeats 4000000
/-! Mir, part T: a def that is one try, whose clause tells the flags of what it caught. -/
namespace Mir
open PySem PySem.Spec PyProof.Rows L2

/-- isinstance(e, X1), isinstance(e, X2), .. -/
def isiB (sc : Scope) (v : Str) : List Str → List Expr → Bool
  | [], [] => true
  | c :: cs, .Call (.Name i _) [.Name e _, .Name y _] [] _ :: es => decide (("isinstance" : Str) = i) && decide (v = e) && decide (c = y) && glB sc y && isiB sc v cs es
  | _, _ => false
/-- the classes that are asked about: what they answer to an exception of the class D -/
def IsiOk (K : PySem.W.Frag) (mg : Str → Option Value) (D : Addr) : List Str → List Bool → Prop
  | [], [] => True
  | c :: cs, b :: bs => (∃ C, mg c = some (.ref C) ∧ PySem.W.kitOne K (.ref D) (.ref C) = some b) ∧ IsiOk K mg D cs bs
  | _, _ => False
theorem call_isP {X : Cx} {a D : Addr} {oe : Obj} (C : ExcC X.K D) (hz : Zc (.ref D) none oe) (hf : ∃ vs, oe.data = .fields vs) (hp : (a, oe) ∈ X.pn) : CallR X (.builtin "isinstance") (rIsE X.K D a) := by
  intro pins s σ H xs us Q I r h
  obtain ⟨c, cv, b, rfl, hcv, e, q⟩ := h
  match us, r with
  | [_, _], .cons rx (.cons rt .nil) =>
    cases rx
    have ec := hcv _ rt
    subst ec
    obtain ⟨hget, _⟩ := I.pin (a, oe) (List.mem_append_left _ hp)
    obtain ⟨vs, hv⟩ := hf
    have J : PySem.W.InstAt s.heap a oe D none := by
      obtain ⟨h1, h2⟩ := hz
      refine ⟨hget, h1, ?_, ?_⟩
      · unfold PySem.W.notCls; rw [hv]
      · rw [h2]; trivial
    exact PySem.W.kia_one (PySem.W.handS_kitx_exc C.hg C.hk C.hs C.hd C.ha C.hn C.ht C.hm) I.kIn J e (fun z => nomatch z) fun tk => ⟨.bl b, H, I.kept (t' := tk) fun _ _ z => z, rfl, q⟩
section
variable {X : Cx} {N : List Str} {sc : Scope} {a D : Addr} {oe : Obj} {v : Str}
/-- the row of flags -/
theorem isi_ok (hN : X.N = N) (hsc : X.env.scope = sc) (hv : N[0]? = some v) (hvis : visB sc v = true) (hpl : plainName v = true) (hg : glB sc "isinstance" = true) (hf : X.mg "isinstance" = none) (C : ExcC X.K D) (hz : Zc (.ref D) none oe) (hfd : ∃ vs, oe.data = .fields vs) (hp : (a, oe) ∈ X.pn) :
    ∀ (cs : List Str) (bs : List Bool) (es : List Expr), isiB sc v cs es = true → IsiOk X.K X.mg D cs bs → ∀ (σ : L2.St) (H : Hp) (Q : List V → Hp → Prop), σ[0]? = some (some (.ref a)) → Q (bs.map V.bl) H → wA X es σ H Q
  | [], bs, es, h, k, σ, H, Q, hs, q => by
    match bs, es, h, k with
    | [], [], _, _ => exact pa_nil.w q
    | [], _ :: _, h, _ => cases h
    | _ :: _, _, _, k => exact k.elim
  | c :: cs, bs, es, h, k, σ, H, Q, hs, q => by
    match bs, k with
    | [], k => exact k.elim
    | b :: bs, ⟨⟨A, hA, hk⟩, k⟩ =>
      unfold isiB at h
      split at h
      · rename_i z; cases z
      · rename_i c' cs' i p1 e p2 y p3 p4 es' heq
        cases heq
        simp only [Bool.and_eq_true, decide_eq_true_eq] at h
        obtain ⟨⟨⟨⟨rfl, rfl⟩, rfl⟩, h4⟩, h5⟩ := h
        have g1 := glB_ok hsc hg
        have g2 := glB_ok hsc h4
        have pv : PE X (.Name v p2) (tVar 0) := pe_var (by rw [hN]; exact hv) (visB_ok hsc hvis) (plainName_ok hpl).1 (plainName_ok hpl).2
        have pc : PE X (.Name c p3) (tC (.ref A)) := pe_glob g2.1 hA rfl g2.2
        have pcall := pe_callB (p := p1) (pos := p4) (call_isP C hz hfd hp) g1.1 hf (by decide +kernel) (pa_cons pv (pa_cons pc pa_nil))
        refine (pa_cons pcall pa_w).w ?_
        refine ⟨.ref a, hs, .ref A, .ref A, b, rfl, fun u r => r, hk, ?_⟩
        exact isi_ok hN hsc hv hvis hpl hg hf C hz hfd hp cs bs es' h5 k σ H _ hs q
      · cases h
end
/-- is that the text of the def that tells the flags? -/
def flagsB (N : List Str) (sc : Scope) (v : Str) (cls : List Str) (bd : List Stmt) : Bool := match bd with
  | [.Return (some (.List es _)) _] => isiB sc v cls es && visB sc v && plainName v && glB sc "isinstance" && decide (N[0]? = some v) && decide (N.length = 1)
  | _ => false
section
variable {P : Program} {w : World} {K : PySem.W.Frag} {mg : Str → Option Value} {base : Heap} {N : List Str} {x v : Str} {pr : Arguments} {bd : List Stmt} {sc : Scope} {f : Addr} {fd : FuncData} {cls : List Str} {bs : List Bool} {D : Addr}
/-- the flags of the exception that is held -/
theorem flags_call (F : FnD K x pr bd sc f fd) (S : FnScope N [v] sc) (hb : Binds K fd [v] []) (h : flagsB N sc v cls bd = true) (hf : mg "isinstance" = none) (C : ExcC K D) (hi : IsiOk K mg D cls bs) (hbl : bs.length ≤ 1000)
    {A : Around} {outer : List PySem.Env} {s : Shared} {H : Hp} {Q : VK} {E : XK} {p : Addr × Obj} (dp : A.depth < recursionLimit) (hz : Zc (.ref D) none p.2) (hfd : ∃ vs, p.2.data = .fields vs) (hpin : L2H.PinOk outer H s p) (e0 : Env0 P w K mg base A outer s H)
    (hQ : ∀ T, H T = none → Q (.ref T) (upd H T (.lst (bs.map V.bl)))) : codeAny (model P w) A (.call (.ref f) ⟨[.ref p.1], []⟩) (CR (L2.CX P w) outer P w H s Q E) s := by
  obtain ⟨oc, od, dV, kV, doc, pm, an, cdv, ct, osl, rfl, lk, hcd, _, _⟩ := F.ex
  have KX : K.In s.heap := e0.mod.kin.keeps fun b o e => (e0.bs b o e).1
  have lim : s.heap.NoLimit := e0.mod.nolimit.keeps fun b o e => (e0.bs b o e).1
  have hkind : ∀ y ∈ [v].zip [Value.ref p.1], sc.names.lookup y.1 = some .local ∨ (sc.names.lookup y.1 = some .cell ∧ ((cellsFrom (s.heap.objs.size + 1) sc.names []).lookup y.1).isSome = true) := fun ⟨n, z⟩ hy => by
    rcases S.par n (List.of_mem_zip hy).1 with q | q
    · exact .inl q
    · exact .inr ⟨q, PySem.W.cellsFrom_some _ _ _ (.inl q)⟩
  have bd1 := hb s [.ref p.1] KX rfl
  rw [List.append_nil] at bd1
  refine codeAny_call_function dp (KX _ _ lk) rfl S.co S.gen rfl (PySem.W.codeRec_of KX hcd) (bd1 _ _ _ _ ?_)
  refine wpAny_newFunctionEnv_cells S.kind hkind fun env he s1 z => ?_
  subst he
  refine ⟨lim.keeps z.toInCall.keep, codeAny_func ?_⟩
  have rv : Vals [V.ref p.1] [Value.ref p.1] := .cons rfl .nil
  have I := L2H.inv_startH (CX := L2.CX P w) (qual := x) (f := f) (cd := cdv) (E := E) S hpin e0 rfl rv z
  unfold flagsB at h
  split at h
  · rename_i es p1 p2
    simp only [Bool.and_eq_true, decide_eq_true_eq] at h
    obtain ⟨⟨⟨⟨⟨h1, h2⟩, h3⟩, h4⟩, h5⟩, h6⟩ := h
    have go := (pss_one (ps_ret (pos := p2) (pe_lst (pos := p1) (pa_w (X := L2H.cxH (L2.CX P w) P w K mg base N x sc f cdv A outer s H E p) (es := es)))))
    refine wpAny_mono (go.run [] s1 (L2.start N [V.ref p.1]) H { nx := fun _ H' => Q .non H', rt := Q } I ?_) (fun fl s' hs => ?_) fun e s' hs => hs
    · refine isi_ok (X := L2H.cxH (L2.CX P w) P w K mg base N x sc f cdv A outer s H E p) (a := p.1) (oe := p.2) rfl rfl h5 h2 h3 h4 hf C hz hfd (.head _) cls bs es h1 hi _ H _ ?_ ?_
      · show (L2.start N [V.ref p.1])[0]? = _
        unfold L2.start
        rfl
      · exact ⟨by rw [List.length_map]; show _ ≤ 2 ^ 24; omega, hQ⟩
    · have fin : ∀ {σ' : L2.St} {H' : Hp} {y : V} {u : Value}, Inv (L2H.cxH (L2.CX P w) P w K mg base N x sc f cdv A outer s H E p) [] σ' H' s' → RelV y u → Q y H' → CE outer P w H s Q u s' :=
        fun {σ' H' y u} J ry q => ⟨y, H', J.os, J.bare, J.base, J.hok, ry, q⟩
      cases fl with
      | ret u =>
        obtain ⟨y, σ', H', J, ry, q⟩ := hs
        exact fin J ry q
      | next =>
        obtain ⟨σ', H', J, q⟩ := hs
        exact fin (y := V.non) (u := Value.none) J rfl q
      | brk =>
        obtain ⟨_, _, _, q⟩ := hs
        exact q.elim
      | cont =>
        obtain ⟨_, _, _, q⟩ := hs
        exact q.elim
  · cases h
end
section
variable {X : Cx} {N : List Str} {x v n : Str} {pr : Arguments} {bd : List Stmt} {sc : Scope} {f : Addr} {fd : FuncData} {cls : List Str} {bs : List Bool} {D a : Addr} {oe : Obj} {i : Nat} {p1 p2 pos : Pos}
/-- flags(e) in the clause -/
theorem pe_flags (F : FnD X.K x pr bd sc f fd) (S : FnScope N [v] sc) (hb : Binds X.K fd [v] []) (h : flagsB N sc v cls bd = true) (hf : X.mg "isinstance" = none) (C : ExcC X.K D) (hi : IsiOk X.K X.mg D cls bs) (hbl : bs.length ≤ 1000)
    (dp : X.A.depth < recursionLimit) (hz : Zc (.ref D) none oe) (hfd : ∃ vs, oe.data = .fields vs) (hp : (a, oe) ∈ X.pn) (hg : Gl X x) (hdb : (x == ("__debug__" : Str)) = false) (hm : X.mg x = some (.ref f))
    (hN : X.N[i]? = some n) (hv : Vis X.env.scope n) (hpl : plainName n = true) :
    PE X (.Call (.Name x p1) [.Name n p2] [] pos) (fun σ H Q => σ[i]? = some (some (.ref a)) ∧ ∀ T, H T = none → Q (.ref T) (upd H T (.lst (bs.map V.bl)))) := by
  have pv : PE X (.Name n p2) (tVar i) := pe_var hN hv (plainName_ok hpl).1 (plainName_ok hpl).2
  have pa := pa_cons pv pa_nil
  refine ⟨fun pins s σ H Q I hq => ?_⟩
  obtain ⟨hs, hQ⟩ := hq
  refine wpAny_Call_Name_kw (ld_glob I hg hm ?_ hdb)
  have run := pa.run pos pins s σ H (fun vs H1 => vs = [.ref a] ∧ H1 = H) I ⟨_, hs, rfl, rfl⟩
  refine PySem.W.callWith_K (h₀ := X.base) I.ok.mod.kin F.kp (thn run fun us s1 ⟨vs, H1, I1, r, e1, e2⟩ => ⟨I1.kIn, ?_⟩) (by rfl) (by rfl)
  subst e1 e2
  cases r with
  | cons rx rr =>
    cases rr
    cases rx
    have P1 := I1.pin (a, oe) (List.mem_append_left _ hp)
    have hpin : L2H.PinOk X.stack H1 s1 (a, oe) := ⟨P1.1, P1.2.1, fun hm => (List.mem_cons.mp (I1.stkSub a hm)).elim P1.2.2.1 P1.2.2.2.1, P1.2.2.2.2⟩
    have fc : codeAny (model X.prog X.w) X.A (.call (.ref f) ⟨[.ref a], []⟩) (CR (L2.CX X.prog X.w) X.stack X.prog X.w H1 s1 Q fun _ _ _ => False) s1 :=
      flags_call (p := (a, oe)) F S hb h hf C hi hbl dp hz hfd hpin I1.env0 hQ
    refine wpAny_call (codeAny_mono fc fun rr s' hq => ?_)
    cases rr with
    | error e =>
      have hq : L2.CX X.prog X.w X.stack H1 s1 (fun _ _ _ => False) e s' := hq
      obtain ⟨_, _, _, _, _, _, _, _, _, _, _, _, z⟩ := hq
      exact z.elim
    | ok fl =>
      cases fl with
      | ret u => exact I1.after hq
      | next => exact (show False from hq).elim
      | brk => exact (show False from hq).elim
      | cont => exact (show False from hq).elim
end
/-- try: .., except sup as n: return flags(n) -/
def tryOf : List Stmt → Option (List Stmt × Str × Str × Str)
  | [.Try tb [.ExceptHandler (some (.Name s _)) (some n) [.Return (some (.Call (.Name g _) [.Name m _] [] _)) _] _] [] [] _] => if n = m then some (tb, s, n, g) else none
  | _ => none
/-- its meaning -/
def toldP (n : Nat) (body : Sts Unit) (tab : List (Str × List Bool)) (args : List PyData) : R PyData := match defP n body args with
  | .exc x _ => (match tab.lookup x with
    | some bs => .ok (.list (bs.map PyData.bool))
    | none => .bad)
  | r => r
/-- what the classes answer -/
structure XTab (K : PySem.W.Frag) (mg : Str → Option Value) (sup : Str) (cls : List Str) (tab : List (Str × List Bool)) : Prop where
  sup : ∃ S, mg sup = some (.ref S) ∧ PySem.W.subIn K (.ref S) (.type "BaseException") = some true ∧ PySem.W.hasDictIn K S = true ∧ PySem.W.typeIn K (.ref S) = some (.type "type") ∧
    ∀ x bs, tab.lookup x = some bs → ∃ D, mg x = some (.ref D) ∧ ExcC K D ∧ PySem.W.subIn K (.ref D) (.ref S) = some true ∧ IsiOk K mg D cls bs ∧ bs.length ≤ 1000
section
variable {P : Program} {w : World} {K : PySem.W.Frag} {mg : Str → Option Value} {base : Heap} {N Ng ps : List Str} {x vg : Str} {pr prg : Arguments} {bd bdg tb : List Stmt} {sc scg : Scope} {f fg : Addr} {fd fdg : FuncData} {cls : List Str} {sup n g : Str} {tab : List (Str × List Bool)} {body : Sts Unit} {lv2 : Option (List Nat)} {j i : Nat}
theorem told_ok (F : FnD K x pr bd sc f fd) (S : FnScope N ps sc) (fr : ∀ x ∈ bltNames, mg (Str.ofString x) = none) (hx : mg x = some (.ref f)) (hb : Binds K fd ps [])
    (Fg : FnD K g prg bdg scg fg fdg) (Sg : FnScope Ng [vg] scg) (hxg : mg g = some (.ref fg)) (hbg : Binds K fdg [vg] []) (hfl : flagsB Ng scg vg cls bdg = true) (T0 : XTab K mg sup cls tab)
    (ht : tryOf bd = some (tb, sup, n, g)) (hN : N[i]? = some n) (hk : sc.names.lookup n = some .local) (hpl : plainName n = true) (hs : glB sc sup = true) (hgg : glB sc g = true)
    (hc : chSs N none sc [] [] body tb = some lv2) (nd : ∀ A, Room j A → NeedSs ⟨P, w, K, mg, base, A⟩ k0 body) : FnG P w K mg base (j + 1) x (toldP N.length body tab) ps.length := by
  unfold tryOf at ht
  split at ht
  · rename_i tb' s p1 n' g' p2 m p3 p4 p5 p6 p7
    split at ht
    · rename_i hnm
      cases ht
      subst hnm
      obtain ⟨Sup, u1, u2, u3, u4, u5⟩ := T0.sup
      refine ⟨f, fd, ps, F.ok S (fun vs H Q E h => h.1) fun cdv A outer s H vs Q E hr h => ?_, hx, F.kp, hb⟩
      have gs := glB_ok (X := cxOf (L2.CX P w) P w K mg base N x sc f cdv A outer s H E) (sp := sc) rfl hs
      have gg := glB_ok (X := cxOf (L2.CX P w) P w K mg base N x sc f cdv A outer s H E) (sp := sc) rfl hgg
      refine ⟨_, pss_one (ps_try_as (X := cxOf (L2.CX P w) P w K mg base N x sc f cdv A outer s H E) (i := i) (c := .ref Sup)
        (tb := fun W D σ H1 => ∀ pn xe, Takes ((cxOf (L2.CX P w) P w K mg base N x sc f cdv A outer s H E).tr pn xe) W → PassesOwn (model P w) (cxOf (L2.CX P w) P w K mg base N x sc f cdv A outer s H E).A (cxOf (L2.CX P w) P w K mg base N x sc f cdv A outer s H E).env xe → wSs ((cxOf (L2.CX P w) P w K mg base N x sc f cdv A outer s H E).tr pn xe) tb D σ H1)
        (ts := fun a cl d D σ H1 => ∀ oe pn, Zc cl d oe → (∃ vs, oe.data = .fields vs) → wSs ((cxOf (L2.CX P w) P w K mg base N x sc f cdv A outer s H E).suite a ((a, oe) :: pn)) [.Return (some (.Call (.Name g p2) [.Name n p3] [] p4)) p5] D σ H1)
        (Wout := fun cls d _ H => E cls d H) rfl rfl S.nd hN hk ⟨gs.1, gs.2, .inl u1⟩ (takes_of rfl rfl rfl rfl)
        (fun W pn xe tk hp => ⟨fun pins s σ H D I h => h pn xe tk hp pins s I⟩) (fun a oe cl d pn hz hfd => ⟨fun pins s σ H D I h => h oe pn hz hfd pins s I⟩)), ?_⟩
      intro pn xe tk hp
      obtain ⟨hl, T, ds, dm, r, h⟩ := h
      have g0 := xs_of (P := P) (w := w) (K := K) (mg := mg) (base := base) (k := k0) (qual := x) (f := f) (cd := cdv) (outer := outer) (H := H) (E := E) (ds := none) S fr hr rfl
      have g1 : XS ((cxOf (L2.CX P w) P w K mg base N x sc f cdv A outer s H E).tr pn xe) k0 N none sc := { n := g0.n, nd := g0.nd, sc := g0.sc, calm := g0.calm, room := g0.room, free := g0.free, slot := g0.slot, passes := hp, fn := g0.fn }
      have en := env_start (N := N) r dm (by rw [hl]; exact FnScope.le S)
      refine chSs_ok g1 body [] [] tb lv2 (nd _ hr) hc T H _ _ _ () _ H _ _ (fun i hi => by cases hi) en tk ?_
      unfold toldP defP pureR runDef bnd R.bind at h
      cases hr2 : runs body (ds.map some ++ List.replicate (N.length - ds.length) none) () with
      | bad => rw [hr2] at h; exact h
      | ok q =>
        obtain ⟨fl, st⟩ := q
        rw [hr2] at h
        cases fl with
        | nx ρ => exact fun l hl σ H' O hO e => h .non H' .mkNone e.ext
        | ret d => exact fun v H' rv e _ => h v H' rv e
        | brk ρ => exact h.elim
        | cnt ρ => exact h.elim
      | exc y l =>
        rw [hr2] at h
        intro cl dx σ H' hxc e
        obtain ⟨m1, m2, m3⟩ := hxc
        cases q : tab.lookup y with
        | none =>
          simp only [q] at h
        | some bs =>
          simp only [q] at h
          obtain ⟨D, v1, v2, v3, v4, v5⟩ := u5 y bs q
          have ecl : cl = .ref D := Option.some.inj (m1.symm.trans v1)
          subst ecl m3
          refine ⟨true, PySem.W.exm_ref u2 u3 u4 v3, fun _ a ha oe pn' hz hfd => ?_, fun z => nomatch z⟩
          intro pins s2 I
          have hlen := I.len
          have hiN : i < (σ.set i (some (V.ref a))).length := by
            rw [hlen]
            exact (List.getElem?_eq_some_iff.mp hN).1
          have pf := pe_flags (X := (cxOf (L2.CX P w) P w K mg base N x sc f cdv A outer s H E).suite a ((a, oe) :: pn')) (p1 := p2) (p2 := p3) (pos := p4) (a := a) (oe := oe) (i := i) (n := n) Fg Sg hbg hfl (fr "isinstance" (by decide)) v2 v4 v5
            (Nat.lt_of_le_of_lt (show (A.deeper (envOfC x sc s.heap.objs.size f cdv)).depth ≤ _ from Nat.le_trans (Nat.le_add_right _ (3 * j)) (Nat.le_add_right _ 5)) hr.dp) hz hfd (.head _) gg.1 gg.2 hxg hN (.inl hk) hpl
          refine (pss_one (ps_ret (pos := p5) pf)).run pins s2 _ _ _ I ⟨?_, fun T2 hT2 => ?_⟩
          · rw [List.getElem?_set_self (by rw [List.length_set] at hiN; exact hiN)]
          · refine h (.ref T2) _ (.mkList (fun t => ?_) (upd_same ..) (by rw [List.length_map]; show _ ≤ 2 ^ 24; omega) ?_) (e.trans (.laid hT2))
            · obtain ⟨o, ho, _⟩ := dm _ t
              rw [e _ o (fun z => z) ho] at hT2
              cases hT2
            · have : ∀ bs : List Bool, RepL T (upd H' T2 (.lst (bs.map V.bl))) (bs.map PyData.bool) (bs.map V.bl) := fun bs => by
                generalize upd H' T2 (.lst (bs.map V.bl)) = HH
                induction bs with
                | nil => exact .nil
                | cons b bs ih => exact .cons .mkBool ih
              exact this bs
    · cases ht
  · cases ht
end
/-! ### from the head -/
def excCB (K : PySem.W.Frag) (D : Addr) : Bool :=
  He.eqO (PySem.W.findIn K (.ref D) "__getattribute__") (some (some (.builtin "BaseException.__getattribute__"))) && (He.eqO (PySem.W.findIn K (.ref D) "__getattr__") (some none) && (decide (PySem.W.subIn K (.ref D) (.type "BaseException") = some true) && (PySem.W.hasDictIn K D &&
  (He.eqO (PySem.W.findIn K (.ref D) "__class__") (some (some (.builtin "object.__class__"))) && (He.eqO (PySem.W.specialIn K (.builtin "object.__class__") "__get__") (some (some (.builtin "getset_descriptor.__get__"))) && (decide (PySem.W.takesIn K (.builtin "object.__class__") = some true) && decide (PySem.W.mroIn K D (.type "object") = some true)))))))
theorem excCB_ok {K : PySem.W.Frag} {D : Addr} (h : excCB K D = true) : ExcC K D := by
  unfold excCB at h
  simp only [Bool.and_eq_true, decide_eq_true_eq] at h
  obtain ⟨h1, h2, h3, h4, h5, h6, h7, h8⟩ := h
  exact ⟨He.eqO_ok h1, He.eqO_ok h2, h3, h4, He.eqO_ok h5, He.eqO_ok h6, h7, h8⟩
def isiAll (K : PySem.W.Frag) (D : Addr) : List Str → List Bool → Bool
  | [], [] => true
  | c :: cs, b :: bs => decide (PySem.W.kitOne K (.ref D) (.ref (He.ga K c)) = some b) && isiAll K D cs bs
  | _, _ => false
def xtB (K : PySem.W.Frag) (sup : Str) (cls : List Str) (tab : List (Str × List Bool)) : Bool :=
  decide (PySem.W.subIn K (.ref (He.ga K sup)) (.type "BaseException") = some true) && (PySem.W.hasDictIn K (He.ga K sup) && (decide (PySem.W.typeIn K (.ref (He.ga K sup)) = some (.type "type")) &&
  tab.all fun p => excCB K (He.ga K p.1) && (decide (PySem.W.subIn K (.ref (He.ga K p.1)) (.ref (He.ga K sup)) = some true) && (isiAll K (He.ga K p.1) cls p.2 && decide (p.2.length ≤ 1000)))))
theorem isiAll_ok {K : PySem.W.Frag} {mg : Str → Option Value} {D : Addr} : ∀ (cs : List Str) (bs : List Bool), (∀ x ∈ cs, mg x = some (.ref (He.ga K x))) → isiAll K D cs bs = true → IsiOk K mg D cs bs
  | [], [], _, _ => trivial
  | [], _ :: _, _, h => by cases h
  | _ :: _, [], _, h => by cases h
  | c :: cs, b :: bs, hm, h => by
    unfold isiAll at h
    simp only [Bool.and_eq_true, decide_eq_true_eq] at h
    exact ⟨⟨_, hm c (.head _), h.1⟩, isiAll_ok cs bs (fun x hx => hm x (.tail _ hx)) h.2⟩
theorem mem_lookup {β : Type} : ∀ {l : List (Str × β)} {x : Str} {b : β}, l.lookup x = some b → (x, b) ∈ l
  | [], _, _, h => by cases h
  | (y, c) :: l, x, b, h => by
    rw [List.lookup_cons] at h
    split at h
    · rename_i e
      cases h
      rw [beq_iff_eq] at e
      rw [e]; exact .head _
    · exact .tail _ (mem_lookup h)
theorem xtab_of {K : PySem.W.Frag} {mg : Str → Option Value} {sup : Str} {cls : List Str} {tab : List (Str × List Bool)} (g : ∀ x ∈ sup :: (cls ++ tab.map (·.1)), mg x = some (.ref (He.ga K x))) (c : xtB K sup cls tab = true) : XTab K mg sup cls tab := by
  unfold xtB at c
  simp only [Bool.and_eq_true, decide_eq_true_eq, List.all_eq_true] at c
  obtain ⟨c1, c2, c3, c4⟩ := c
  refine ⟨_, g sup (.head _), c1, c2, c3, fun x bs h => ?_⟩
  have hm := mem_lookup h
  obtain ⟨d1, d2, d3, d4⟩ := c4 _ hm
  exact ⟨_, g x (.tail _ (List.mem_append_right _ (List.mem_map_of_mem (f := (·.1)) hm))), excCB_ok d1, d2, isiAll_ok cls bs (fun y hy => g y (.tail _ (List.mem_append_left _ hy))) d3, d4⟩
def toldB (N : List Str) (sc : Scope) (bd : List Stmt) (body : Sts Unit) (sup n g : Str) (i : Nat) : Bool := match tryOf bd with
  | some (tb, s, n', g') => decide (s = sup) && (decide (n' = n) && (decide (g' = g) && ((chSs N none sc [] [] body tb).isSome && (decide (N[i]? = some n) && (decide (sc.names.lookup n = some .local) && (plainName n && (glB sc sup && glB sc g)))))))
  | none => false
theorem told_okS {P : Program} {w : World} {K : PySem.W.Frag} {mg : Str → Option Value} {base : Heap} {x g sup n vg : Str} {st stg : Stmt} {N Ng ps : List Str} {body : Sts Unit} {j i : Nat} {cls : List Str} {tab : List (Str × List Bool)} (F : DefAt K mg x st) (S : FnScope N ps (defScope st)) (fr : ∀ x ∈ bltNames, mg (Str.ofString x) = none)
    (hb : ∀ f fd, FnD K x (defArgs st) (defBody st) (defScope st) f fd → Binds K fd ps []) (Fg : DefAt K mg g stg) (Sg : FnScope Ng [vg] (defScope stg)) (hbg : ∀ f fd, FnD K g (defArgs stg) (defBody stg) (defScope stg) f fd → Binds K fd [vg] []) (hfl : flagsB Ng (defScope stg) vg cls (defBody stg) = true) (T0 : XTab K mg sup cls tab)
    (hc : toldB N (defScope st) (defBody st) body sup n g i = true) (nd : ∀ A, Room j A → NeedSs ⟨P, w, K, mg, base, A⟩ k0 body) : FnG P w K mg base (j + 1) x (toldP N.length body tab) ps.length := by
  obtain ⟨f, fd, F, hx⟩ := F
  obtain ⟨fg, fdg, Fg, hxg⟩ := Fg
  unfold toldB at hc
  split at hc
  · rename_i tb s n' g' ht
    simp only [Bool.and_eq_true, decide_eq_true_eq] at hc
    obtain ⟨rfl, rfl, rfl, h1, h2, h3, h4, h5, h6⟩ := hc
    obtain ⟨lv, e⟩ := Option.isSome_iff_exists.mp h1
    exact told_ok F S fr hx (hb f fd F) Fg Sg hxg (hbg fg fdg Fg) hfl T0 ht h2 h3 h4 h5 h6 e nd
  · cases hc
end Mir

set_option Elab.async false
set_option linter.all false
set_option maxRecDepth 100000
set_option maxHeartbeats 4000000
/-! Mir, part U: a law that asks for repr(..): nothing of the kind is under way where it is called. -/
namespace Mir
open PySem PySem.Spec PyProof.Rows L2

/-- a promise at the places of Φ -/
structure FnOn (Φ : Around → Prop) (P : Program) (w : World) (K : PySem.W.Frag) (mg : Str → Option Value) (base : Heap) (CX : CXT) (k : Nat) (f : Addr) (fd : FuncData) (ps : List Str) (sp : Sp) : Prop where
  len : ∀ vs H Q E, sp vs H Q E → vs.length = ps.length
  run : ∀ (A : Around) (outer : List PySem.Env) (s : Shared) (H : Hp) (args : Args) (us : List Value) (vs : List V) (Q : VK) (E : XK), Φ A → Room k A → Env0 P w K mg base A outer s H → BindsTo s fd args (ps.zip us) → Vals vs us → sp vs H Q E →
    codeAny (model P w) A (.call (.ref f) args) (CR CX outer P w H s Q E) s
section
variable {P : Program} {w : World} {K : PySem.W.Frag} {mg : Str → Option Value} {base : Heap} {x qual : Str} {params : Arguments} {body : List Stmt} {scope : Scope} {dvs : List V} {kws : List (Str × V)} {f : Addr} {fd : FuncData}
theorem fn_on {Φ : Around → Prop} {CX : CXT} {N ps : List Str} {k : Nat} {sp : Sp} (F : FunD K x qual params body scope dvs kws f fd) (S : FnScope N ps scope) (len : ∀ vs H Q E, sp vs H Q E → vs.length = ps.length)
    (hbody : ∀ (cdv : Value) (A : Around) (outer : List PySem.Env) (s : Shared) (H : Hp) (vs : List V) (Q : VK) (E : XK), Φ A → Room k (A.deeper (envOfC qual scope s.heap.objs.size f cdv)) → sp vs H Q E →
      ∃ t, PSs (cxOf CX P w K mg base N qual scope f cdv A outer s H E) body t ∧ t { nx := fun _ H' => Q .non H', rt := Q } (start N vs) H) : FnOn Φ P w K mg base CX (k + 1) f fd ps sp := by
  obtain ⟨oc, od, dV, kV, doc, pm, an, cdv, ct, osl, rfl, lk, hcd, _, _⟩ := F.ex
  refine ⟨len, fun A outer s H args us vs Q E hΦ hr e0 hb r hsp => ?_⟩
  have hlen := len _ _ _ _ hsp
  have KX : K.In s.heap := e0.mod.kin.keeps fun b o e => (e0.bs b o e).1
  have lim : s.heap.NoLimit := e0.mod.nolimit.keeps fun b o e => (e0.bs b o e).1
  refine codeAny_call_function hr.depth (KX _ _ lk) rfl S.co S.gen rfl (PySem.W.codeRec_of KX hcd) (hb _ _ _ _ (wpAny_newFunctionEnv_cells S.kind (fun y hy => ?_) fun env he s1 xx => ?_))
  · rcases S.par y.1 (List.of_mem_zip (show (y.1, y.2) ∈ _ from hy)).1 with q | q
    · exact .inl q
    · exact .inr ⟨q, PySem.W.cellsFrom_some _ _ _ (.inl q)⟩
  subst he
  obtain ⟨t, ht, hq⟩ := hbody cdv A outer s H vs Q E hΦ (hr.deeper _) hsp
  have I : Inv (cxOf CX P w K mg base N qual scope f cdv A outer s H E) [] (start N vs) H s1 := inv_start S hr.hd e0 hlen r xx
  refine ⟨lim.keeps xx.toInCall.keep, codeAny_func (wpAny_mono (ht.run [] s1 (start N vs) H _ I hq) (fun fl s' hs => ?_) fun e s' hs => hs)⟩
  cases fl with
  | ret u =>
    obtain ⟨v, σ', H', J, rv, q⟩ := hs
    exact ⟨v, H', J.os, J.bare, J.base, J.hok, rv, q⟩
  | next =>
    obtain ⟨σ', H', J, q⟩ := hs
    exact ⟨V.non, H', J.os, J.bare, J.base, J.hok, (show RelV V.non Value.none from rfl), q⟩
  | brk =>
    obtain ⟨_, _, _, q⟩ := hs
    exact q.elim
  | cont =>
    obtain ⟨_, _, _, q⟩ := hs
    exact q.elim
end
/-- nothing guarded is under way -/
def NoGuard (A : Around) : Prop := A.guards = some []
section
variable {P : Program} {w : World} {K : PySem.W.Frag} {mg : Str → Option Value} {base : Heap}
theorem law_okG {st0 : Stmt} {N : List Str} {body : Sts (List Int)} {j : Nat} {f : Addr} {fd : FuncData} (F : FnD K "law" (defArgs st0) (defBody st0) (defScope st0) f fd) (S : FnScope N ["script"] (defScope st0)) (fr : ∀ x ∈ bltNames, mg (Str.ofString x) = none)
    (FD : ∃ f fd, FnOk P w K mg base (L2.CX P w) 1 f fd ["script"] (spDr K) ∧ mg "_law_draws" = some (.ref f) ∧ PySem.W.keepIn K (.ref f) = true ∧ Binds K fd ["script"] []) (hj : 1 ≤ j)
    (h : lwB N (defScope st0) (defBody st0) body = true) (nd : ∀ A, Room j A → A.guards = some [] → ∀ a, NeedSs ⟨P, w, K, mg, base, A⟩ (kR 1 a) body)
    (sem : ∀ st : List Int, ∃ st', runs body (List.replicate N.length none) st = .ok (.ret (.bool true), st')) : FnOn NoGuard P w K mg base (L2.CX P w) (j + 1) f fd ["script"] (spLaw K) := by
  obtain ⟨fD, fdD, FD, gD, kD, bD⟩ := FD
  unfold lwB at h
  split at h
  · rename_i rest hb
    simp only [Bool.and_eq_true, decide_eq_true_eq] at h
    obtain ⟨⟨⟨⟨⟨a1, hN0⟩, hN1⟩, hv⟩, hd⟩, hg⟩ := h
    obtain ⟨lv2, hc⟩ := Option.isSome_iff_exists.mp a1
    generalize defScope st0 = sc at *
    generalize defArgs st0 = pr at *
    generalize defBody st0 = bd at *
    refine fn_on F S (fun vs H Q E h => ?_) fun cdv A outer s H vs Q E hΦ hr hsp => ⟨_, pss_w, ?_⟩
    · obtain ⟨a, ns, rfl, _⟩ := h; rfl
    obtain ⟨a, ns, rfl, hns, hS, hQ⟩ := hsp
    unfold lawB at hb
    split at hb
    · rename_i d p1 l p2 x p3 p4 p5 rest'
      split at hb
      · rename_i hz
        cases hb
        simp only [Bool.and_eq_true, decide_eq_true_eq] at hz
        obtain ⟨⟨rfl, rfl⟩, rfl⟩ := hz
        have tk : Takes (cxOf (L2.CX P w) P w K mg base N "law" sc f cdv A outer s H E) (fun cls d _ H => E cls d H) := takes_of rfl rfl rfl rfl
        have nd' : ∀ a, NeedSs (gx (cxOf (L2.CX P w) P w K mg base N "law" sc f cdv A outer s H E)) (kR 1 a) body := nd _ hr (by
          have e : A.guards = some [] := hΦ
          show (A.deeper _).guards = some []
          first | exact e | (simp [Around.deeper, e])
          )
        have gs : ∀ p, XS (cxOf (L2.CX P w) P w K mg base N "law" sc f cdv A outer s H E) (kR 1 p) N (some 1) sc := fun p => xs_of S fr hr rfl
        have FD' : FnOk (cxOf (L2.CX P w) P w K mg base N "law" sc f cdv A outer s H E).prog (cxOf (L2.CX P w) P w K mg base N "law" sc f cdv A outer s H E).w (cxOf (L2.CX P w) P w K mg base N "law" sc f cdv A outer s H E).K (cxOf (L2.CX P w) P w K mg base N "law" sc f cdv A outer s H E).mg (cxOf (L2.CX P w) P w K mg base N "law" sc f cdv A outer s H E).base (L2.CX P w) 1 fD fdD ["script"] (spDr K) := FD
        have hrX : Room 1 (cxOf (L2.CX P w) P w K mg base N "law" sc f cdv A outer s H E).A := hr.mono hj
        have gDX : (cxOf (L2.CX P w) P w K mg base N "law" sc f cdv A outer s H E).mg "_law_draws" = some (.ref fD) := gD
        have kDX : PySem.W.keepIn (cxOf (L2.CX P w) P w K mg base N "law" sc f cdv A outer s H E).K (.ref fD) = true := kD
        have bDX : Binds (cxOf (L2.CX P w) P w K mg base N "law" sc f cdv A outer s H E).K fdD ["script"] [] := bD
        have eP : (cxOf (L2.CX P w) P w K mg base N "law" sc f cdv A outer s H E).prog = P := rfl
        have eW : (cxOf (L2.CX P w) P w K mg base N "law" sc f cdv A outer s H E).w = w := rfl
        generalize hX : cxOf (L2.CX P w) P w K mg base N "law" sc f cdv A outer s H E = X at gs tk nd' FD' hrX gDX kDX bDX eP eW ⊢
        have g := gs a
        obtain ⟨hgl, hgd⟩ := glB_ok g.sc hg
        have hnd : X.N.Nodup := by rw [g.n]; exact g.nd
        have vs : PE X (.Name "script" p3) (tVar 0) := pe_var (by rw [g.n]; exact hN0) (visB_ok g.sc hv)
        have tk' : ∀ σ, PassesAt (L2.CX P w) X σ (WE (fun cls d _ H => E cls d H) σ) := fun σ => by
          have := passAt tk σ
          rw [eP, eW] at this
          exact this
        refine (pss_cons (ps_set hnd (by rw [g.n]; exact hN1) (locB_Loc g.sc hd) (pe_callS (E := WE (fun cls d _ H => E cls d H)) FD' hrX hgl gDX kDX bDX tk' (pa_cons vs pa_nil) hgd rfl rfl) rfl (.inl (g.fn _))) pss_w).w ?_
        refine ⟨.ref a, rfl, a, ns, rfl, hns, hS, fun p H' st hp hst => ?_⟩
        have hlen : 2 ≤ N.length := (List.getElem?_eq_some_iff.mp hN1).1
        have en : EnvO (kR 1 p) (fun b => b = p) H' (fun _ _ => False) (fun _ => none) (List.replicate N.length none) st.reverse ((L2.start N [.ref a]).set 1 (some (.ref p))) H' :=
          { v0 := fun i d hd _ => (by rw [List.getElem?_replicate] at hd; split at hd <;> cases hd), v1 := fun _ _ h => (nomatch h), inj := fun _ _ _ h => (nomatch h), new := fun _ _ h => (nomatch h), ext := .refl, dom0 := fun b h => ⟨.lst (st.map V.int), (by subst h; exact hp), trivial⟩, loc := fun _ h => h, rel := ⟨by rw [List.reverse_reverse]; exact hp, by rw [List.length_reverse]; exact hst⟩,
            ds := fun q h => (by cases h; exact List.getElem?_set_self (by unfold L2.start; simp; omega)), len := (by unfold L2.start; simp; omega), kept := fun _ _ h => h.elim }
        obtain ⟨st', hs⟩ := sem st.reverse
        refine chSs_ok (gs p) body [] [] _ lv2 (nd' p) hc _ H' _ _ _ _ _ H' _ _ (fun i hi => by cases hi) en tk ?_
        rw [hs]
        intro v H2 rv _ _
        rw [rv.bool_inv]
        exact hQ H2
      · cases hb
    · cases hb
  · cases h
end
/-- the law's call, at the heap behind the top -/
theorem law_callG {Φ : Around → Prop} {P : Program} {w : World} {K : PySem.W.Frag} {mg mb : Str → Option Value} {CX : CXT} {k : Nat} {fa a : Addr} {fd : FuncData} {x : Str} {sp : Sp} {s₁ : Shared} {vs : List Value} {ns : List Int}
    (KX : K.In s₁.heap) (hns : s₁.heap.Ns mainGlobals mg) (hb : s₁.heap.Ns builtinsNs mb) (hbb : ∀ x : Str, x ≠ "__name__" → mb x = bootBuiltins x) (hlim : s₁.heap.NoLimit) (hg : s₁.gens = #[])
    (ha : s₁.heap.get? a = some { cls := .type "list", data := .seq vs.toArray }) (hi : IntsAre vs ns) (hl : ns.length ≤ sizeLine) (hΦ : Φ callerA) (hr : Room k callerA)
    (F : ∀ base : Heap, K.In base → base.Ns mainGlobals mg → FnOn Φ P w K mg base CX k fa fd [x] sp) (hbind : ∀ (s : Shared) (u : Value), BindsTo s fd ⟨[u], []⟩ [(x, u)])
    (hsp : ∀ H : Hp, SqL K H a (ns.map V.int) → sp [.ref a] H (fun v _ => v = .bl true) fun _ _ _ => False)
    (hCX : ∀ H e s', CX [] H s₁ (fun _ _ _ => False) e s' → False) :
    codeAny (model P w) callerA (.call (.ref fa) ⟨[.ref a], []⟩) (fun r s' => r = .ok (.ret (.bool true)) ∧ OldK s₁.heap s'.heap ∧ s'.os = s₁.os ∧ AllBare s'.gens) s₁ := by
  have rv := vals_ints hi
  have lenV := hi.length
  have core : ∀ H : Hp, Only H → SqL K H a (ns.map V.int) → HOk P w H s₁.heap → (∀ b, H b ≠ none → b = a) → (H a ≠ none → K.lookup a = none) →
      codeAny (model P w) callerA (.call (.ref fa) ⟨[.ref a], []⟩) (fun r s' => r = .ok (.ret (.bool true)) ∧ OldK s₁.heap s'.heap ∧ s'.os = s₁.os ∧ AllBare s'.gens) s₁ := by
    intro H hO hS hok hA hK
    have away : ∀ {b : Addr}, (b = a → False) → H b = none := fun {b} h => by
      cases q : H b with
      | none => rfl
      | some u => exact (h (hA b (by rw [q]; simp))).elim
    have nsK : ∀ {b : Addr} {m : Str → Option Value}, s₁.heap.Ns b m → (hidT s₁.heap H).Ns b m := fun {b m} ⟨o, es, ep, e, d, r⟩ => ⟨o, es, ep, hidT_get e (away fun e' => by
      subst e'
      rw [ha] at e; cases e
      cases (show Data.seq vs.toArray _ = Data.dict es ep from d)), d, r⟩
    have hKb : K.In (hidT s₁.heap H) := fun b o e => hidT_get (KX b o e) (by
      cases q : H b with
      | none => rfl
      | some u =>
        have e' : b = a := hA b (by rw [q]; simp)
        subst e'
        rw [hK (by rw [q]; simp)] at e; cases e)
    have hM : Mod K mg (hidT s₁.heap H) := ⟨hKb, nsK hns, ⟨mb, nsK hb, hbb⟩, let ⟨mc, h1, h2⟩ := hlim; ⟨mc, nsK h1, h2⟩⟩
    have e0 : Env0 P w K mg (hidT s₁.heap H) callerA [] s₁ H := ⟨rfl, hM, fun b o e => of_hidT e, Nat.le_of_eq (hidT_size _ _), trivial, fun b hb => absurd (show b ∈ ([] : List Addr) from hb) (by simp), hok, .of_eq hg⟩
    refine codeAny_mono ((F _ hKb (nsK hns)).run callerA [] s₁ H ⟨[.ref a], []⟩ [.ref a] [.ref a] _ _ hΦ hr e0 (hbind s₁ (.ref a)) (.cons rfl .nil) (hsp H hS)) fun r s' h => ?_
    match r, h with
    | .error e, h => exact (hCX H e s' h).elim
    | .ok .next, h => exact h.elim
    | .ok .brk, h => exact h.elim
    | .ok .cont, h => exact h.elim
    | .ok (.ret u), h =>
      obtain ⟨v, H', os, bare, un, hok', r', q⟩ := h
      have q' : v = .bl true := q
      subst q'
      obtain rfl : u = Value.bool true := r'
      refine ⟨rfl, OldK.of_keep fun b o e => ?_, os, bare⟩
      cases q : H b with
      | none => exact un.keep b o e q (fun z => absurd (show b ∈ ([] : List Addr) from z) (by simp)) (by simp)
      | some u =>
        rcases hO b with z | ⟨ob, xs, z⟩
        · rw [q] at z; cases z
        · obtain ⟨e1, _⟩ := hok b _ z
          obtain ⟨e2, _⟩ := hok' b _ (un.frzs b ob _ z)
          rw [e] at e1; cases e1
          exact e2
  cases hk : K.lookup a with
  | some o =>
    have e := KX a o hk
    rw [ha] at e
    cases e
    exact core (fun _ => none) (fun _ => .inl rfl) (.inr ⟨_, vs.toArray, _, hk, rfl, rfl, rfl, by rw [List.size_toArray, lenV]; exact hl, by simpa using rv⟩) (fun b u z => nomatch (show (none : Option HO) = some u from z)) (fun b z => absurd rfl z) fun z => absurd rfl z
  | none =>
    refine core (fun b => if b = a then some (.frz { cls := .type "list", data := .seq vs.toArray } (.lst (ns.map V.int))) else none) (fun b => ?_) (.inl (.inr ⟨{ cls := .type "list", data := .seq vs.toArray }, if_pos rfl⟩)) (fun b u z => ?_) (fun b z => ?_) fun _ => hk
    · by_cases hb : b = a
      · exact .inr ⟨_, _, if_pos hb⟩
      · exact .inl (if_neg hb)
    · by_cases hb : b = a
      · cases (if_pos hb).symm.trans z
        subst hb
        exact ⟨ha, by rw [List.length_map]; exact hl, vs, _, rv, ha⟩
      · cases (if_neg hb).symm.trans z
    · by_cases hb : b = a
      · exact hb
      · exact absurd (if_neg hb) z
theorem walkG {Φ : Around → Prop} {lw : PySem.W.OpenLaw} {most k : Nat} {q : Program} {loose : List Str}
    {XP : (Str → Option Value) → Heap → Prop} {YP : World → Heap → Prop} {dr : DefRec}
    (CXw : World → CXT) {nm : Str} (h1 : lw.most = some most) (h2 : most ≤ sizeLine)
    (h3 : dr.params.defaults = []) (hΦ : Φ callerA) (room : Room k callerA)
    (law : ∀ (w : World) (mg : Str → Option Value) (f : Addr) (hp : Heap), YP w hp → hp.Ns mainGlobals mg →
      mg dr.name = some (.ref f) → ∃ (K : PySem.W.Frag) (fd : FuncData) (sp : Sp), K.In hp ∧
        (∀ (s : Shared) (u : Value), BindsTo s fd ⟨[u], []⟩ [(nm, u)]) ∧
        (∀ (H : Hp) (a : Addr) (ns : List Int), ns.length ≤ most → SqL K H a (ns.map V.int) →
          sp [.ref a] H (fun v _ => v = .bl true) fun _ _ _ => False) ∧
        ∀ base : Heap, K.In base → base.Ns mainGlobals mg → FnOn Φ lw.prog w K mg base (CXw w) k f fd [nm] sp)
    (noX : ∀ w (H : Hp) (s : Shared) (e : Value) (s' : Shared), CXw w [] H s (fun _ _ _ => False) e s' → False) :
    PySem.W.WalkO q loose XP YP lw.row.toRowW dr [] (fun f vs => PySem.call f vs) := by
  refine Att.attach_call h1 h3 fun w _ s1 mg mb f o pm cd doc a vs ns G Y ho hd hcd hmg hobj hints hlen hg => ?_
  obtain ⟨K, fd, sp, kx, bd, use, fok⟩ := law w mg f _ Y G.T.g hmg
  exact law_callG kx G.T.g G.T.b G.T.builtins G.T.nolimit hg hobj hints (Nat.le_trans hlen h2) hΦ room fok bd (fun H hS => use H a ns hlen hS) fun H e s' => noX w H s1 e s'
end Mir

set_option Elab.async false
set_option linter.all false
set_option maxRecDepth 100000
/-! Plain part A: what a text of Mir does, whatever the draws. -/
namespace Mir
open PySem

/-- it goes well or raises what X allows, whatever the state, and Q holds of what comes -/
def SatE {S α : Type} (X : Str → Prop) (m : M S α) (Q : α → Prop) : Prop := ∀ s, (∃ a s', m s = .ok (a, s') ∧ Q a) ∨ ∃ x l, m s = .exc x l ∧ X x
def NoE : Str → Prop := fun _ => False
abbrev Sat {S α : Type} (m : M S α) (Q : α → Prop) : Prop := SatE NoE m Q
section
variable {S α β : Type} {X : Str → Prop} {ρ : Env} {Q : PyData → Prop} {F : Fl → Prop}
theorem SatE.get {m : M S α} {Q : α → Prop} (h : Sat m Q) (s : S) : ∃ a s', m s = .ok (a, s') ∧ Q a := (h s).elim id fun ⟨_, _, _, z⟩ => z.elim
theorem sat_bnd {m : M S α} {f : α → M S β} {Q : β → Prop} (h : SatE X m fun a => SatE X (f a) Q) : SatE X (bnd m f) Q := fun s => by
  rcases h s with ⟨a, s', e, h⟩ | ⟨x, l, e, h⟩
  · rw [bnd_ok e]; exact h s'
  · exact .inr ⟨x, l, by unfold bnd; rw [e]; rfl, h⟩
theorem sat_ret {a : α} {Q : α → Prop} (h : Q a) : SatE (S := S) X (ret a) Q := fun s => .inl ⟨a, s, rfl, h⟩
theorem sat_lft {r : R α} {a : α} {Q : α → Prop} (e : r = .ok a) (h : Q a) : SatE (S := S) X (lft r) Q := fun s => .inl ⟨a, s, by unfold lft; rw [e]; rfl, h⟩
theorem sat_exc {r : R α} {x : Str} {l : List PyData} {Q : α → Prop} (e : r = .exc x l) (h : X x) : SatE (S := S) X (lft r) Q := fun s => .inr ⟨x, l, by unfold lft; rw [e]; rfl, h⟩
theorem sat_nx {m : M S α} {Q : α → Prop} (h : Sat m Q) : SatE X (nx m) Q := fun s => by
  obtain ⟨a, s', e, h⟩ := h.get s
  exact .inl ⟨a, s', by unfold nx; rw [e], h⟩
theorem SatE.imp {m : M S α} {Q Q' : α → Prop} (h : SatE X m Q) (i : ∀ a, Q a → Q' a) : SatE X m Q' := fun s => by
  rcases h s with ⟨a, s', e, h⟩ | h
  · exact .inl ⟨a, s', e, i a h⟩
  · exact .inr h
theorem SatE.wide {m : M S α} {Q : α → Prop} (h : Sat m Q) : SatE X m Q := fun s => .inl (h.get s)
/-! expressions -/
theorem sat_v {i : Nat} (h : ∃ d, getV ρ i = .ok d ∧ Q d) : SatE X (ev (S := S) (.v i) ρ) Q := sat_lft h.choose_spec.1 h.choose_spec.2
theorem sat_int {i : Int} (h : Q (.int i)) : SatE X (ev (S := S) (.int i) ρ) Q := sat_ret h
theorem sat_bl {b : Bool} (h : Q (.bool b)) : SatE X (ev (S := S) (.bl b) ρ) Q := sat_ret h
theorem sat_non (h : Q .none) : SatE X (ev (S := S) .non ρ) Q := sat_ret h
theorem sat_str {x : Str} (hx : decide (x.length ≤ sizeLine) = true) (h : Q (.str x)) : SatE X (ev (S := S) (.str x) ρ) Q := by
  show SatE X (if x.length ≤ sizeLine then ret (.str x) else lft .bad) Q
  rw [if_pos (of_decide_eq_true hx)]
  exact sat_ret h
theorem sat_glob {x : Str} {d : PyData} (h : Q d) : SatE X (ev (S := S) (.glob x d) ρ) Q := sat_ret h
theorem sat_bin {op : Operator} {a b : E S} (h : SatE X (ev a ρ) fun x => SatE X (ev b ρ) fun y => SatE X (lft (S := S) (binD op x y)) Q) : SatE X (ev (.bin op a b) ρ) Q := by
  unfold ev
  exact sat_bnd (h.imp fun _ h => sat_bnd h)
theorem sat_cmp {op : CmpOp} {a b : E S} (h : SatE X (ev a ρ) fun x => SatE X (ev b ρ) fun y => SatE X (lft (S := S) (cmpD op x y)) Q) : SatE X (ev (.cmp op a b) ρ) Q := by
  unfold ev
  exact sat_bnd (h.imp fun _ h => sat_bnd h)
theorem sat_neg {a : E S} (h : SatE X (ev a ρ) fun x => ∃ i, x = .int i ∧ Q (.int (-i))) : SatE X (ev (.neg a) ρ) Q := by
  unfold ev
  exact sat_bnd (h.imp fun _ h => by
    obtain ⟨i, rfl, h⟩ := h
    exact sat_lft rfl h)
theorem sat_not {a : E S} (h : SatE X (ev a ρ) fun x => Q (.bool (!truthy x))) : SatE X (ev (.not_ a) ρ) Q := by
  unfold ev
  exact sat_bnd (h.imp fun _ h => sat_ret h)
theorem sat_one {a : E S} (h : SatE X (ev a ρ) Q) : SatE X (ev (.one a) ρ) Q := h
theorem sat_and {a b : E S} (h : SatE X (ev a ρ) fun x => if truthy x = true then SatE X (ev b ρ) Q else Q x) : SatE X (ev (.and_ a b) ρ) Q := by
  unfold ev
  exact sat_bnd (h.imp fun x h => by
    show SatE X (if truthy x = true then ev b ρ else ret x) Q
    split at h <;> rename_i g
    · rw [if_pos g]; exact h
    · rw [if_neg g]; exact sat_ret h)
theorem sat_or {a b : E S} (h : SatE X (ev a ρ) fun x => if truthy x = true then Q x else SatE X (ev b ρ) Q) : SatE X (ev (.or_ a b) ρ) Q := by
  unfold ev
  exact sat_bnd (h.imp fun x h => by
    show SatE X (if truthy x = true then ret x else ev b ρ) Q
    split at h <;> rename_i g
    · rw [if_pos g]; exact sat_ret h
    · rw [if_neg g]; exact h)
theorem sat_cond {c a b : E S} (h : SatE X (ev c ρ) fun x => if truthy x = true then SatE X (ev a ρ) Q else SatE X (ev b ρ) Q) : SatE X (ev (.ite c a b) ρ) Q := by
  unfold ev
  exact sat_bnd (h.imp fun x h => by
    show SatE X (if truthy x = true then ev a ρ else ev b ρ) Q
    split at h <;> rename_i g
    · rw [if_pos g]; exact h
    · rw [if_neg g]; exact h)
theorem sat_chain {o1 o2 : CmpOp} {a b c : E S} (h : SatE X (ev a ρ) fun x => SatE X (ev b ρ) fun y => SatE X (lft (S := S) (cmpD o1 x y)) fun z => if truthy z = true then SatE X (ev c ρ) fun w => SatE X (lft (S := S) (cmpD o2 y w)) Q else Q z) : SatE X (ev (.chain o1 o2 a b c) ρ) Q :=
  sat_bnd (h.imp fun x h => sat_bnd (h.imp fun y h => sat_bnd (h.imp fun z h => by
    show SatE X (if truthy z = true then bnd (ev c ρ) fun w => lft (cmpD o2 y w) else ret z) Q
    split at h <;> rename_i g
    · rw [if_pos g]; exact sat_bnd h
    · rw [if_neg g]; exact sat_ret h)))
theorem sat_tup {es : Es S} (h : SatE X (evs es ρ) fun xs => xs.length ≤ sizeLine ∧ Q (.tuple xs)) : SatE X (ev (.tup es) ρ) Q := by
  unfold ev
  exact sat_bnd (h.imp fun xs h => by
    show SatE X (if xs.length ≤ sizeLine then ret (.tuple xs) else lft .bad) Q
    rw [if_pos h.1]; exact sat_ret h.2)
theorem sat_lst {es : Es S} (h : SatE X (evs es ρ) fun xs => xs.length ≤ sizeLine ∧ Q (.list xs)) : SatE X (ev (.lst es) ρ) Q := by
  unfold ev
  exact sat_bnd (h.imp fun xs h => by
    show SatE X (if xs.length ≤ sizeLine then ret (.list xs) else lft .bad) Q
    rw [if_pos h.1]; exact sat_ret h.2)
theorem sat_dict0 (h : Q (.dict [])) : SatE X (ev (S := S) .dict0 ρ) Q := sat_ret h
theorem sat_sub {a i : E S} (h : SatE X (ev a ρ) fun x => SatE X (ev i ρ) fun y => SatE X (lft (S := S) (subD x y)) Q) : SatE X (ev (.sub a i) ρ) Q := by
  unfold ev
  exact sat_bnd (h.imp fun _ h => sat_bnd h)
theorem sat_slL {a lo : E S} (h : SatE X (ev a ρ) fun x => SatE X (ev lo ρ) fun l => ∃ i, l = .int i ∧ SatE X (lft (S := S) (cutX x (some i) none)) Q) : SatE X (ev (.slL a lo) ρ) Q := by
  unfold ev
  exact sat_bnd (h.imp fun x h => sat_bnd (h.imp fun l h => by
    obtain ⟨i, rfl, h⟩ := h
    exact h))
theorem sat_slH {a hi : E S} (h : SatE X (ev a ρ) fun x => SatE X (ev hi ρ) fun l => ∃ i, l = .int i ∧ SatE X (lft (S := S) (cutX x none (some i))) Q) : SatE X (ev (.slH a hi) ρ) Q := by
  unfold ev
  exact sat_bnd (h.imp fun x h => sat_bnd (h.imp fun l h => by
    obtain ⟨i, rfl, h⟩ := h
    exact h))
theorem sat_sl {a lo hi : E S} (h : SatE X (ev a ρ) fun x => SatE X (ev lo ρ) fun l => ∃ i, l = .int i ∧ SatE X (ev hi ρ) fun u => ∃ j, u = .int j ∧ SatE X (lft (S := S) (cutX x (some i) (some j))) Q) : SatE X (ev (.sl a lo hi) ρ) Q := by
  unfold ev
  exact sat_bnd (h.imp fun x h => sat_bnd (h.imp fun l h => by
    obtain ⟨i, rfl, h⟩ := h
    refine sat_bnd (sat_lft rfl (sat_bnd (h.imp fun u h => ?_)))
    obtain ⟨j, rfl, h⟩ := h
    exact h))
theorem sat_call {nm : Str} {m : List PyData → R PyData} {es : Es S} (h : SatE X (evs es ρ) fun xs => SatE X (lft (S := S) (m xs)) Q) : SatE X (ev (.call nm m es) ρ) Q := sat_bnd h
theorem sat_callS {nm : Str} {m : List PyData → S → R (PyData × S)} {es : Es S} (h : SatE X (evs es ρ) fun xs => SatE X (m xs) Q) : SatE X (ev (.callS nm m es) ρ) Q := sat_bnd h
theorem sat_blt {f : B} {es : Es S} (h : SatE X (evs es ρ) fun xs => SatE X (lft (S := S) (bltD f xs)) Q) : SatE X (ev (.blt f es) ρ) Q := sat_bnd h
theorem sat_isa {t : Ty} {a : E S} (h : SatE X (ev a ρ) fun x => Q (.bool (isaD t x))) : SatE X (ev (.isa t a) ρ) Q := by
  unfold ev
  exact sat_bnd (h.imp fun _ h => sat_ret h)
theorem sat_subG {x : Str} {kvs : List (Int × Int)} {i : E S} (h : SatE X (ev i ρ) fun y => SatE X (lft (S := S) (subGD kvs y)) Q) : SatE X (ev (.subG x kvs i) ρ) Q := sat_bnd h
theorem sat_op1 {f : O1} {a : E S} (h : SatE X (ev a ρ) fun x => SatE X (lft (S := S) (op1D f x)) Q) : SatE X (ev (.op1 f a) ρ) Q := sat_bnd h
theorem sat_op2 {f : O2} {a b : E S} (h : SatE X (ev a ρ) fun x => ok2 f x = true ∧ SatE X (ev b ρ) fun y => SatE X (lft (S := S) (op2D f x y)) Q) : SatE X (ev (.op2 f a b) ρ) Q := by
  unfold ev
  exact sat_bnd (h.imp fun x h => by
    show SatE X (if ok2 f x = true then bnd (ev b ρ) fun y => lft (op2D f x y) else lft .bad) Q
    rw [if_pos h.1]; exact sat_bnd h.2)
theorem sat_nil {Q : List PyData → Prop} (h : Q []) : SatE X (evs (S := S) .nil ρ) Q := sat_ret h
theorem sat_cons {a : E S} {r : Es S} {Q : List PyData → Prop} (h : SatE X (ev a ρ) fun x => SatE X (evs r ρ) fun xs => Q (x :: xs)) : SatE X (evs (.cons a r) ρ) Q := by
  unfold evs
  exact sat_bnd (h.imp fun _ h => sat_bnd (h.imp fun _ h => sat_ret h))
/-! walks -/
theorem sat_of {a : E S} {Q : List PyData → Prop} (h : SatE X (ev a ρ) fun x => SatE X (lft (S := S) (itemsR x)) Q) : SatE X (evIt (.of a) ρ) Q := sat_bnd h
theorem sat_range1 {a : E S} {Q : List PyData → Prop} (h : SatE X (ev a ρ) fun x => ∃ n : Int, x = .int n ∧ n ≤ sizeLine ∧ -(2 ^ 62) ≤ n ∧ Q (rangeD 0 n.toNat)) : SatE X (evIt (.range1 a) ρ) Q := by
  unfold evIt
  exact sat_bnd (h.imp fun x h => by
    obtain ⟨n, rfl, h1, h2, h⟩ := h
    refine sat_lft ?_ h
    show (if n ≤ sizeLine ∧ -(2 ^ 62) ≤ n then R.ok (rangeD 0 n.toNat) else .bad) = _
    rw [if_pos ⟨h1, h2⟩])
theorem sat_range2 {a b : E S} {Q : List PyData → Prop} (h : SatE X (ev a ρ) fun x => SatE X (ev b ρ) fun y => ∃ lo hi : Int, x = .int lo ∧ y = .int hi ∧ (-(2 ^ 62) ≤ lo ∧ lo < 2 ^ 62 ∧ -(2 ^ 62) ≤ hi ∧ hi < 2 ^ 62 ∧ (hi - lo).toNat ≤ sizeLine) ∧ Q (rangeD lo (hi - lo).toNat)) : SatE X (evIt (.range2 a b) ρ) Q := by
  unfold evIt
  exact sat_bnd (h.imp fun x h => sat_bnd (h.imp fun y h => by
    obtain ⟨lo, hi, rfl, rfl, h1, h⟩ := h
    refine sat_lft ?_ h
    show (if -(2 ^ 62) ≤ lo ∧ lo < 2 ^ 62 ∧ -(2 ^ 62) ≤ hi ∧ hi < 2 ^ 62 ∧ (hi - lo).toNat ≤ sizeLine then R.ok (rangeD lo (hi - lo).toNat) else .bad) = _
    rw [if_pos h1]))
theorem sat_zip {a b : E S} {Q : List PyData → Prop} (h : SatE X (ev a ρ) fun x => SatE X (ev b ρ) fun y => SatE X (lft (S := S) (zipD x y)) Q) : SatE X (evIt (.zip a b) ρ) Q := by
  unfold evIt
  exact sat_bnd (h.imp fun _ h => sat_bnd h)
theorem sat_enum {a : E S} {Q : List PyData → Prop} (h : SatE X (ev a ρ) fun x => SatE X (lft (S := S) (enumD x)) Q) : SatE X (evIt (.enum a) ρ) Q := sat_bnd h
theorem sat_sign {a : E S} {Q : List PyData → Prop} (h : SatE X (ev a ρ) fun x => SatE X (lft (S := S) (signD x)) Q) : SatE X (evIt (.sign a) ρ) Q := sat_bnd h
/-! comprehensions -/
/-- what is asked of each element of a walk -/
def LcF (S : Type) (elt : E S) (tg : Tg) (c : E S) (ρ : Env) (x : PyData) (G : Option PyData → Prop) : Prop := Sat (lft (S := S) (asg tg x ρ)) fun ρ' => Sat (ev c ρ') fun t => if truthy t = true then Sat (ev elt ρ') fun y => G (some y) else G none
theorem lcf_ok {elt : E S} {tg : Tg} {c : E S} {ρ : Env} {x : PyData} {G : Option PyData → Prop} (h : LcF S elt tg c ρ x G) :
    SatE X (nx (bnd (lft (asg tg x ρ)) fun ρ' => bnd (ev c ρ') fun t => if truthy t = true then bnd (ev elt ρ') fun y => ret (some y) else ret none)) G := sat_nx (sat_bnd (h.imp fun ρ' h => sat_bnd (h.imp fun t h => by
  split at h <;> rename_i g
  · rw [if_pos g]; exact sat_bnd (h.imp fun y h => sat_ret h)
  · rw [if_neg g]; exact sat_ret h)))
theorem lcGo_ok {f : PyData → M S (Option PyData)} {g : PyData → Option PyData} : ∀ xs : List PyData, (∀ x ∈ xs, SatE X (f x) (· = g x)) → SatE X (lcGo f xs) (· = xs.filterMap g)
  | [], _ => sat_ret rfl
  | x :: xs, h => sat_bnd ((h x (.head _)).imp fun o e => sat_bnd ((lcGo_ok xs fun y hy => h y (.tail _ hy)).imp fun r e2 => sat_ret (by
      subst e; subst e2
      cases q : g x with
      | none => rw [List.filterMap_cons_none q]
      | some y => rw [List.filterMap_cons_some q])))
theorem lcGo_any {f : PyData → M S (Option PyData)} {P : PyData → Prop} : ∀ xs : List PyData, (∀ x ∈ xs, SatE X (f x) (fun o => ∃ y, o = some y ∧ P y)) → SatE X (lcGo f xs) (fun ys => ys.length = xs.length ∧ ∀ y ∈ ys, P y)
  | [], _ => sat_ret ⟨rfl, fun _ h => nomatch h⟩
  | x :: xs, h => sat_bnd ((h x (.head _)).imp fun o e => sat_bnd ((lcGo_any xs fun y hy => h y (.tail _ hy)).imp fun r e2 => sat_ret (by
      obtain ⟨y, rfl, hy⟩ := e
      exact ⟨congrArg Nat.succ e2.1, fun z hz => by
        cases hz with
        | head => exact hy
        | tail _ hz => exact e2.2 z hz⟩)))
/-- a comprehension whose elements are told by g -/
theorem sat_lc {elt : E S} {tg : Tg} {it : It S} {c : E S} {own : List (Str × Nat)} (g : PyData → Option PyData) (h : SatE X (evIt it ρ) fun xs => (∀ x ∈ xs, LcF S elt tg c (wipeE ρ (own.map (·.2))) x (· = g x)) ∧ Q (.list (xs.filterMap g))) : SatE X (ev (.lc elt tg it c own) ρ) Q :=
  sat_bnd (h.imp fun xs h => sat_bnd ((lcGo_ok xs fun x hx => lcf_ok (h.1 x hx)).imp fun ys e => sat_ret (e ▸ h.2)))
/-- a comprehension whose elements are of a kind -/
theorem sat_lcA {elt : E S} {tg : Tg} {it : It S} {c : E S} {own : List (Str × Nat)} (P : PyData → Prop) (h : SatE X (evIt it ρ) fun xs => (∀ x ∈ xs, LcF S elt tg c (wipeE ρ (own.map (·.2))) x (fun o => ∃ y, o = some y ∧ P y)) ∧ ∀ ys : List PyData, ys.length = xs.length → (∀ y ∈ ys, P y) → Q (.list ys)) : SatE X (ev (.lc elt tg it c own) ρ) Q :=
  sat_bnd (h.imp fun xs h => sat_bnd ((lcGo_any xs fun x hx => lcf_ok (h.1 x hx)).imp fun ys e => sat_ret (h.2 ys e.1 e.2)))
/-! statements -/
/-- what follows -/
def Kx (r : Sts S) (F : Fl → Prop) : Fl → Prop
  | .nx ρ' => SatE X (runs r ρ') F
  | .ret d => F (.ret d)
  | .brk ρ' => F (.brk ρ')
  | .cnt ρ' => F (.cnt ρ')
theorem sat_end (h : F (.nx ρ)) : SatE X (runs (S := S) .nil ρ) F := sat_ret h
theorem sat_st {a : St S} {r : Sts S} (h : SatE X (run a ρ) (Kx (X := X) r F)) : SatE X (runs (.cons a r) ρ) F := by
  unfold runs
  exact sat_bnd (h.imp fun fl h => by
    cases fl with
    | nx ρ' => exact h
    | ret d => exact sat_ret h
    | brk ρ' => exact sat_ret h
    | cnt ρ' => exact sat_ret h)
theorem kx_nx {r : Sts S} (h : SatE X (runs r ρ) F) : Kx (X := X) r F (.nx ρ) := h
theorem kx_ret {r : Sts S} {d : PyData} (h : F (.ret d)) : Kx (X := X) r F (.ret d) := h
theorem kx_brk {r : Sts S} (h : F (.brk ρ)) : Kx (X := X) r F (.brk ρ) := h
theorem kx_cnt {r : Sts S} (h : F (.cnt ρ)) : Kx (X := X) r F (.cnt ρ) := h
theorem sat_set {i : Nat} {own : Bool} {e : E S} (h : SatE X (ev e ρ) fun d => F (.nx (ρ.set i (some d)))) : SatE X (run (.set i own false e) ρ) F := by
  unfold run
  exact sat_bnd (h.imp fun d h => by
    rw [if_pos (Or.inl rfl)]; exact sat_ret h)
theorem sat_setT {i : Nat} {own : Bool} {e : E S} (h : SatE X (ev e ρ) fun d => immK own d = true ∧ F (.nx (ρ.set i (some d)))) : SatE X (run (.set i own true e) ρ) F := by
  unfold run
  exact sat_bnd (h.imp fun d h => by
    rw [if_pos (Or.inr h.1)]; exact sat_ret h.2)
theorem sat_asg {is : List Nat} {e : E S} (h : SatE X (ev e ρ) fun d => SatE X (lft (S := S) (asg (.tup is) d ρ)) fun ρ' => F (.nx ρ')) : SatE X (run (.asg is false e) ρ) F := by
  unfold run
  exact sat_bnd (h.imp fun d h => by
    rw [if_pos (Or.inl rfl)]; exact sat_bnd (h.imp fun ρ' h => sat_ret h))
theorem sat_par {is : List Nat} {ks : List Bool} {es : Es S} (h : SatE X (evs es ρ) fun ds => ds.length = is.length ∧ F (.nx (setAll is ds ρ))) : SatE X (run (.par is ks false es) ρ) F := by
  unfold run
  exact sat_bnd (h.imp fun d h => by
    rw [if_pos ⟨h.1, Or.inl rfl⟩]; exact sat_ret h.2)
theorem sat_app {i : Nat} {e : E S} (h : ∃ xs, getL ρ i = .ok xs ∧ SatE X (ev e ρ) fun d => xs.length < sizeLine ∧ F (.nx (ρ.set i (some (.list (xs ++ [d])))))) : SatE X (run (.app i false e) ρ) F := by
  obtain ⟨x, g, h⟩ := h
  unfold run
  exact sat_bnd (sat_lft g (sat_bnd (h.imp fun d h => by
    rw [if_pos ⟨Or.inl rfl, h.1⟩]; exact sat_ret h.2)))
theorem sat_setItem {i : Nat} {ix e : E S} (h : ∃ x, getV ρ i = .ok x ∧ SatE X (ev e ρ) fun d => SatE X (ev ix ρ) fun k => SatE X (lft (S := S) (setItemD x k d)) fun y => F (.nx (ρ.set i (some y)))) : SatE X (run (.setItem i false ix e) ρ) F := by
  obtain ⟨x, g, h⟩ := h
  unfold run
  exact sat_bnd (h.imp fun d h => by
    rw [if_pos (Or.inl rfl)]
    exact sat_bnd (sat_lft g (sat_bnd (h.imp fun k h => sat_bnd (h.imp fun y h => sat_ret h)))))
theorem sat_aug {i : Nat} {op : Operator} {e : E S} (h : ∃ x, getV ρ i = .ok x ∧ SatE X (ev e ρ) fun d => SatE X (lft (S := S) (augD op x d)) fun y => F (.nx (ρ.set i (some y)))) : SatE X (run (.aug i op e) ρ) F :=
  by obtain ⟨x, g, h⟩ := h; unfold run; exact sat_bnd (sat_lft g (sat_bnd (h.imp fun d h => sat_bnd (h.imp fun y h => sat_ret h))))
theorem sat_expr {e : E S} (h : SatE X (ev e ρ) fun _ => F (.nx ρ)) : SatE X (run (.expr e) ρ) F := by
  unfold run
  exact sat_bnd (h.imp fun _ h => sat_ret h)
theorem sat_retE {e : E S} (h : SatE X (ev e ρ) fun d => F (.ret d)) : SatE X (run (.ret e) ρ) F := by
  unfold run
  exact sat_bnd (h.imp fun _ h => sat_ret h)
theorem sat_retN (h : F (.ret .none)) : SatE X (run (S := S) .retN ρ) F := sat_ret h
theorem sat_pass (h : F (.nx ρ)) : SatE X (run (S := S) .pass ρ) F := sat_ret h
theorem sat_brk (h : F (.brk ρ)) : SatE X (run (S := S) .brk ρ) F := sat_ret h
theorem sat_cnt (h : F (.cnt ρ)) : SatE X (run (S := S) .cnt ρ) F := sat_ret h
theorem sat_if {c : E S} {a b : Sts S} (h : SatE X (ev c ρ) fun t => if truthy t = true then SatE X (runs a ρ) F else SatE X (runs b ρ) F) : SatE X (run (.ite c a b) ρ) F := by
  unfold run
  exact sat_bnd (h.imp fun t h => by
    show SatE X (if truthy t = true then runs a ρ else runs b ρ) F
    split at h <;> rename_i g
    · rw [if_pos g]; exact h
    · rw [if_neg g]; exact h)
/-- what a round of a loop has to do -/
def Rnd (I : Env → Prop) (F : Fl → Prop) : Fl → Prop
  | .nx ρ => I ρ
  | .cnt ρ => I ρ
  | .brk ρ => F (.nx ρ)
  | .ret d => F (.ret d)
theorem rnd_nx {I : Env → Prop} (h : I ρ) : Rnd I F (.nx ρ) := h
theorem rnd_cnt {I : Env → Prop} (h : I ρ) : Rnd I F (.cnt ρ) := h
theorem rnd_brk {I : Env → Prop} (h : F (.nx ρ)) : Rnd I F (.brk ρ) := h
theorem rnd_ret {I : Env → Prop} {d : PyData} (h : F (.ret d)) : Rnd I F (.ret d) := h
theorem forGo_ok {f : PyData → Env → M S Fl} : ∀ (xs : List PyData) (I : Nat → Env → Prop) {ρ : Env}, I 0 ρ → (∀ k (hk : k < xs.length) ρ, I k ρ → SatE X (f xs[k] ρ) (Rnd (I (k + 1)) F)) → (∀ ρ, I xs.length ρ → F (.nx ρ)) → SatE X (forGo f xs ρ) F
  | [], I, ρ, h0, _, he => sat_ret (he _ h0)
  | x :: xs, I, ρ, h0, h, he => sat_bnd ((h 0 (Nat.zero_lt_succ _) ρ h0).imp fun fl g => by
      have rest : ∀ ρ, I 1 ρ → SatE X (forGo f xs ρ) F := fun ρ g => forGo_ok xs (fun k => I (k + 1)) g (fun k hk ρ i => h (k + 1) (Nat.succ_lt_succ hk) ρ i) he
      cases fl with
      | nx ρ' => exact rest _ g
      | cnt ρ' => exact rest _ g
      | brk ρ' => exact sat_ret g
      | ret d => exact sat_ret g)
theorem sat_for {li : List Nat} {tg : Tg} {it : It S} {body : Sts S} (I : List PyData → Nat → Env → Prop) (h : SatE X (evIt it ρ) fun xs => I xs 0 ρ ∧ (∀ k (hk : k < xs.length) ρ, I xs k ρ → SatE X (lft (S := S) (asg tg xs[k] ρ)) fun ρ' => SatE X (runs body ρ') (Rnd (I xs (k + 1)) F)) ∧ ∀ ρ, I xs xs.length ρ → F (.nx ρ)) : SatE X (run (.for_ li tg it body) ρ) F :=
  sat_bnd (h.imp fun xs h => forGo_ok xs (I xs) h.1 (fun k hk ρ i => sat_bnd (h.2.1 k hk ρ i)) h.2.2)
/-- how a def ends -/
def FinQ (Q : PyData → Prop) : Fl → Prop
  | .ret d => Q d
  | .nx _ => Q .none
  | _ => False
theorem fin_ret {d : PyData} (h : Q d) : FinQ Q (.ret d) := h
theorem fin_nx (h : Q .none) : FinQ Q (.nx ρ) := h
theorem defP_ok {n : Nat} {body : Sts Unit} {args : List PyData} {d : PyData} (h : Sat (runs body (args.map some ++ List.replicate (n - args.length) none)) (FinQ (· = d))) : defP n body args = .ok d := by
  obtain ⟨fl, s', e, h⟩ := h.get ()
  unfold defP runDef
  rw [bnd_ok e]
  cases fl with
  | ret x => cases h; rfl
  | nx x => cases h; rfl
  | brk x => exact h.elim
  | cnt x => exact h.elim
theorem defP_sat {n : Nat} {body : Sts Unit} {args : List PyData} {P : PyData → Prop} (h : Sat (runs body (args.map some ++ List.replicate (n - args.length) none)) (FinQ P)) : ∃ d, defP n body args = .ok d ∧ P d := by
  obtain ⟨fl, s', e, h⟩ := h.get ()
  unfold defP runDef
  rw [bnd_ok e]
  cases fl with
  | ret x => exact ⟨_, rfl, h⟩
  | nx x => exact ⟨_, rfl, h⟩
  | brk x => exact h.elim
  | cnt x => exact h.elim
theorem defD_sat {n : Nat} {body : Sts (List Int)} {args : List PyData} {P : PyData → Prop} (h : Sat (runs body (none :: (args.map some ++ List.replicate (n - 1 - args.length) none))) (FinQ P)) : Sat (defD n body args) P := by
  refine sat_bnd (h.imp fun fl h => ?_)
  cases fl with
  | ret x => exact sat_ret h
  | nx x => exact sat_ret h
  | brk x => exact h.elim
  | cnt x => exact h.elim
theorem defP_exc {n : Nat} {body : Sts Unit} {args : List PyData} {x : Str} (h : SatE (· = x) (runs body (args.map some ++ List.replicate (n - args.length) none)) fun _ => False) : ∃ l, defP n body args = .exc x l := by
  rcases h () with ⟨_, _, _, z⟩ | ⟨y, l, e, rfl⟩
  · exact z.elim
  · exact ⟨l, by unfold defP runDef bnd; rw [e]; rfl⟩
theorem sat_raise {x : Str} (h : X x) : SatE X (run (S := S) (.raise_ x) ρ) F := sat_exc rfl h
theorem sat_pick {fs : List (Str × (List PyData → R PyData))} {i : E S} {es : Es S} (h : SatE X (ev i ρ) fun x => ∃ p, pickD fs x = some p ∧ SatE X (evs es ρ) fun xs => SatE X (lft (S := S) (p.2 xs)) Q) : SatE X (ev (.pick fs i es) ρ) Q := by
  unfold ev
  exact sat_bnd (h.imp fun x h => by
    obtain ⟨p, e, h⟩ := h
    rw [e]
    exact sat_bnd h)
theorem sat_range3 {a b c : E S} {Q : List PyData → Prop} (h : SatE X (ev a ρ) fun x => SatE X (ev b ρ) fun y => SatE X (ev c ρ) fun z => ∃ i j k : Int, x = .int i ∧ y = .int j ∧ z = .int k ∧ ∃ l, range3D i j k = .ok l ∧ Q l) : SatE X (evIt (.range3 a b c) ρ) Q := by
  unfold evIt
  exact sat_bnd (h.imp fun x h => sat_bnd (h.imp fun y h => sat_bnd (h.imp fun z h => by
    obtain ⟨i, j, k, rfl, rfl, rfl, l, e, h⟩ := h
    exact sat_lft e h)))
theorem sat_revw {a : E S} {Q : List PyData → Prop} (h : SatE X (ev a ρ) fun x => SatE X (lft (S := S) (itemsR x)) fun xs => Q xs.reverse) : SatE X (evIt (.rev a) ρ) Q := by
  unfold evIt
  refine sat_bnd (h.imp fun x h => ?_)
  intro s
  rcases h s with ⟨xs, s', e, h⟩ | ⟨y, l, e, h⟩
  · refine .inl ⟨xs.reverse, s', ?_, h⟩
    unfold lft R.bind at e ⊢
    cases q : itemsR x with
    | ok ys => rw [q] at e; cases e; rfl
    | exc y l => rw [q] at e; cases e
    | bad => rw [q] at e; cases e
  · unfold lft R.bind at e
    cases q : itemsR x with
    | ok ys => rw [q] at e; cases e
    | exc y l => cases x <;> cases q
    | bad => rw [q] at e; cases e
/-- told: it goes well -/
theorem told_val {n : Nat} {body : Sts Unit} {tab : List (Str × List Bool)} {args : List PyData} {d : PyData} (h : defP n body args = .ok d) : toldP n body tab args = .ok d := by unfold toldP; rw [h]
/-- .. it raises -/
theorem told_exc {n : Nat} {body : Sts Unit} {tab : List (Str × List Bool)} {args : List PyData} {x : Str} {l : List PyData} {bs : List Bool} (h : defP n body args = .exc x l) (e : tab.lookup x = some bs) : toldP n body tab args = .ok (.list (bs.map PyData.bool)) := by
  unfold toldP; rw [h]
  show (match tab.lookup x with
    | some bs => R.ok (PyData.list (bs.map PyData.bool))
    | none => .bad) = _
  rw [e]
end
end Mir

set_option Elab.async false
set_option linter.all false
set_option maxRecDepth 100000
/-! Plain part B: operations, and the tactic that steps. -/
namespace Mir
open PySem
section
variable {S α : Type} {X : Str → Prop} {ρ : Env} {Q : PyData → Prop} {F : Fl → Prop} {A B : Prop}
theorem if_T (h : A) : (if truthy (.bool true) = true then A else B) := (if_pos (show truthy (.bool true) = true from rfl)).mpr h
theorem if_F (h : B) : (if truthy (.bool false) = true then A else B) := (if_neg (show ¬ truthy (.bool false) = true by decide)).mpr h
theorem if_bool {b : Bool} (h1 : b = true → A) (h2 : b = false → B) : (if truthy (.bool b) = true then A else B) := by
  cases b with
  | true => exact if_T (h1 rfl)
  | false => exact if_F (h2 rfl)
theorem if_dec {p : Prop} [Decidable p] (h1 : p → A) (h2 : ¬ p → B) : (if truthy (.bool (decide p)) = true then A else B) := if_bool (fun h => h1 (of_decide_eq_true h)) fun h => h2 (of_decide_eq_false h)
theorem if_decT {p : Prop} [Decidable p] (h : p) (h1 : A) : (if truthy (.bool (decide p)) = true then A else B) := if_dec (fun _ => h1) fun n => absurd h n
theorem if_decF {p : Prop} [Decidable p] (h : ¬ p) (h1 : B) : (if truthy (.bool (decide p)) = true then A else B) := if_dec (fun n => absurd n h) fun _ => h1
theorem if_not {b : Bool} (h : if truthy (.bool b) = true then B else A) : (if truthy (.bool (!b)) = true then A else B) := by
  cases b with
  | true => exact if_F (by rwa [if_pos (show truthy (.bool true) = true from rfl)] at h)
  | false => exact if_T (by rwa [if_neg (show ¬ truthy (.bool false) = true by decide)] at h)
theorem if_not' {b : Bool} (h : if truthy (.bool b) = true then B else A) : (if truthy (.bool (!truthy (.bool b))) = true then A else B) := if_not h
theorem if_rT {x : PyData} (e : truthy x = true) (h : A) : (if truthy x = true then A else B) := (if_pos e).mpr h
theorem if_rF {x : PyData} (e : truthy x = false) (h : B) : (if truthy x = true then A else B) := (if_neg (by rw [e]; decide)).mpr h
theorem if_andF {c : Bool} {m : M S PyData} (h : c = true → SatE X m (· = .bool false)) (k : Q (.bool false)) : (if truthy (.bool c) = true then SatE X m Q else Q (.bool c)) := if_bool (fun z => (h z).imp fun x e => e ▸ k) fun z => z ▸ k
theorem if_notT {x : Bool} (h : x = true) (h1 : B) : (if truthy (.bool (!x)) = true then A else B) := by subst h; exact if_F h1
theorem if_notF {x : Bool} (h : x = false) (h1 : A) : (if truthy (.bool (!x)) = true then A else B) := by subst h; exact if_T h1
theorem if_val {x : PyData} {b : Bool} (e : truthy x = b) (h : if truthy (.bool b) = true then A else B) : (if truthy x = true then A else B) := by
  have : truthy (.bool b) = b := rfl
  rw [this] at h
  rw [e]; exact h
theorem small_of {i : Int} (h : -18446744073709551616 < i ∧ i < 18446744073709551616) : small i = true := by
  unfold small
  exact decide_eq_true (by omega)
theorem sat_addI {i j : Int} (h : Q (.int (i + j))) : SatE X (lft (S := S) (binD .Add (.int i) (.int j))) Q := sat_lft rfl h
theorem sat_subI {i j : Int} (h : Q (.int (i - j))) : SatE X (lft (S := S) (binD .Sub (.int i) (.int j))) Q := sat_lft rfl h
theorem sat_mulI {i j : Int} (g : small i = true ∨ small j = true) (h : Q (.int (i * j))) : SatE X (lft (S := S) (binD .Mult (.int i) (.int j))) Q := sat_lft (by
  show (if (small i || small j) = true then R.ok (PyData.int (i * j)) else .bad) = _
  rw [if_pos (by simpa using g)]) h
theorem log_lt {j : Int} (b : Nat) (h0 : 0 < j) (h : j < 2 ^ b) (hb : b ≤ 9000) : j.natAbs.log2 < 9000 := by
  have h1 : j.natAbs < 2 ^ b := by
    have e : ((2 ^ b : Nat) : Int) = (2 : Int) ^ b := by simp
    rw [← e] at h
    omega
  have h2 := (Nat.log2_lt (by omega : j.natAbs ≠ 0)).mpr h1
  omega
theorem sat_divW {i j : Int} (g : 0 < j ∧ j.natAbs.log2 < 9000) (h : Q (.int (i / j))) : SatE X (lft (S := S) (binD .FloorDiv (.int i) (.int j))) Q := sat_lft (by
  show (if 0 < j ∧ j.natAbs.log2 < 9000 then R.ok (PyData.int (i / j)) else .bad) = _
  rw [if_pos g]) h
theorem sat_divI {i j : Int} (g : 0 < j ∧ j < 1073741824) (h : Q (.int (i / j))) : SatE X (lft (S := S) (binD .FloorDiv (.int i) (.int j))) Q :=
  sat_divW ⟨g.1, log_lt 30 g.1 (by omega) (by omega)⟩ h
theorem sat_modI {i j : Int} (g : 0 < j) (h : Q (.int (i % j))) : SatE X (lft (S := S) (binD .Mod (.int i) (.int j))) Q := sat_lft (by
  show (if 0 < j then R.ok (PyData.int (i % j)) else .bad) = _
  rw [if_pos g]) h
theorem sat_addS {a b : Str} (g : a.length + b.length ≤ sizeLine) (h : Q (.str (a ++ b))) : SatE X (lft (S := S) (binD .Add (.str a) (.str b))) Q := sat_lft (by
  show (if a.length + b.length ≤ sizeLine then R.ok (PyData.str (a ++ b)) else .bad) = _
  rw [if_pos g]) h
theorem sat_addL {a b : List PyData} (g : a.length + b.length ≤ sizeLine) (h : Q (.list (a ++ b))) : SatE X (lft (S := S) (binD .Add (.list a) (.list b))) Q := sat_lft (by
  show (if a.length + b.length ≤ sizeLine then R.ok (PyData.list (a ++ b)) else .bad) = _
  rw [if_pos g]) h
theorem sat_addT {a b : List PyData} (g : a.length + b.length ≤ sizeLine) (h : Q (.tuple (a ++ b))) : SatE X (lft (S := S) (binD .Add (.tuple a) (.tuple b))) Q := sat_lft (by
  show (if a.length + b.length ≤ sizeLine then R.ok (PyData.tuple (a ++ b)) else .bad) = _
  rw [if_pos g]) h
theorem ltOk_int (i j : Int) : ltOk (.int i) (.int j) = true := rfl
theorem ltOk_str (i j : Str) : ltOk (.str i) (.str j) = true := rfl
theorem okD_int (i : Int) : okD (.int i) = true := rfl
theorem okD_str (i : Str) : okD (.str i) = true := rfl
theorem okD_bool (i : Bool) : okD (.bool i) = true := rfl
theorem okD_none : okD .none = true := rfl
theorem cmpD_lt (a b : PyData) : cmpD .Lt a b = if ltOk a b = true then R.ok (PyData.bool (W.dataLt a b)) else .bad := by cases a <;> cases b <;> rfl
theorem cmpD_gt (a b : PyData) : cmpD .Gt a b = if ltOk a b = true then R.ok (PyData.bool (W.dataLt b a)) else .bad := by cases a <;> cases b <;> rfl
theorem cmpD_le (a b : PyData) : cmpD .LtE a b = if ltOk a b = true then R.ok (PyData.bool (!W.dataLt b a)) else .bad := by cases a <;> cases b <;> rfl
theorem cmpD_ge (a b : PyData) : cmpD .GtE a b = if ltOk a b = true then R.ok (PyData.bool (!W.dataLt a b)) else .bad := by cases a <;> cases b <;> rfl
theorem cmpD_eq (a b : PyData) : cmpD .Eq a b = if (okD a && okD b) = true then R.ok (PyData.bool (PyData.eqv a b)) else .bad := by cases a <;> cases b <;> rfl
theorem cmpD_ne (a b : PyData) : cmpD .NotEq a b = if (okD a && okD b) = true then R.ok (PyData.bool (!PyData.eqv a b)) else .bad := by cases a <;> cases b <;> rfl
theorem sat_ltI {i j : Int} (h : Q (.bool (decide (i < j)))) : SatE X (lft (S := S) (cmpD .Lt (.int i) (.int j))) Q := sat_lft (by rw [cmpD_lt, if_pos (ltOk_int i j), W.dataLt_int]) h
theorem sat_gtI {i j : Int} (h : Q (.bool (decide (j < i)))) : SatE X (lft (S := S) (cmpD .Gt (.int i) (.int j))) Q := sat_lft (by rw [cmpD_gt, if_pos (ltOk_int i j), W.dataLt_int]) h
theorem sat_leI {i j : Int} (h : Q (.bool (decide (i ≤ j)))) : SatE X (lft (S := S) (cmpD .LtE (.int i) (.int j))) Q := sat_lft (by
  have e : (!decide (j < i)) = decide (i ≤ j) := by rw [← decide_not]; exact decide_eq_decide.mpr (by omega)
  rw [cmpD_le, if_pos (ltOk_int i j), W.dataLt_int, e]) h
theorem sat_geI {i j : Int} (h : Q (.bool (decide (j ≤ i)))) : SatE X (lft (S := S) (cmpD .GtE (.int i) (.int j))) Q := sat_lft (by
  have e : (!decide (i < j)) = decide (j ≤ i) := by rw [← decide_not]; exact decide_eq_decide.mpr (by omega)
  rw [cmpD_ge, if_pos (ltOk_int i j), W.dataLt_int, e]) h
theorem eqv_int (i j : Int) : PyData.eqv (.int i) (.int j) = decide (i = j) := by
  unfold PyData.eqv; exact (Bool.beq_eq_decide_eq i j)
theorem eqv_str (i j : Str) : PyData.eqv (.str i) (.str j) = decide (i = j) := by
  unfold PyData.eqv; exact (Bool.beq_eq_decide_eq i j)
theorem sat_eqI {i j : Int} (h : Q (.bool (decide (i = j)))) : SatE X (lft (S := S) (cmpD .Eq (.int i) (.int j))) Q := sat_lft (by rw [cmpD_eq, eqv_int]; rfl) h
theorem sat_neI {i j : Int} (h : Q (.bool (decide (i ≠ j)))) : SatE X (lft (S := S) (cmpD .NotEq (.int i) (.int j))) Q := sat_lft (by rw [cmpD_ne, eqv_int, decide_not]; rfl) h
theorem sat_eqS {i j : Str} (h : Q (.bool (decide (i = j)))) : SatE X (lft (S := S) (cmpD .Eq (.str i) (.str j))) Q := sat_lft (by rw [cmpD_eq, eqv_str]; rfl) h
theorem sat_neS {i j : Str} (h : Q (.bool (decide (i ≠ j)))) : SatE X (lft (S := S) (cmpD .NotEq (.str i) (.str j))) Q := sat_lft (by rw [cmpD_ne, eqv_str, decide_not]; rfl) h
theorem sat_neB {i j : Bool} (h : Q (.bool (decide (i ≠ j)))) : SatE X (lft (S := S) (cmpD .NotEq (.bool i) (.bool j))) Q := sat_lft (by cases i <;> cases j <;> rfl) h
theorem sat_eqB {i j : Bool} (h : Q (.bool (decide (i = j)))) : SatE X (lft (S := S) (cmpD .Eq (.bool i) (.bool j))) Q := sat_lft (by cases i <;> cases j <;> rfl) h
theorem sat_eqR {a b : PyData} (g : okD a = true) (e : a = b) (h : Q (.bool true)) : SatE X (lft (S := S) (cmpD .Eq a b)) Q := sat_lft (by
  subst e
  rw [cmpD_eq, g, PySem.SeqAt.eqv_refl_plain a (by unfold okD at g; simp only [Bool.and_eq_true] at g; exact g.1)]; rfl) h
theorem sat_neR {a b : PyData} (g : okD a = true) (e : a = b) (h : Q (.bool false)) : SatE X (lft (S := S) (cmpD .NotEq a b)) Q := sat_lft (by
  subst e
  rw [cmpD_ne, g, PySem.SeqAt.eqv_refl_plain a (by unfold okD at g; simp only [Bool.and_eq_true] at g; exact g.1)]; rfl) h
theorem sat_is {a : PyData} (h : Q (.bool (isNone a))) : SatE X (lft (S := S) (cmpD .Is a .none)) Q := sat_lft (by cases a <;> rfl) h
theorem sat_isnt {a : PyData} (h : Q (.bool (!isNone a))) : SatE X (lft (S := S) (cmpD .IsNot a .none)) Q := sat_lft (by cases a <;> rfl) h
theorem sat_abs {i : Int} (h : Q (.int (if i < 0 then -i else i))) : SatE X (lft (S := S) (bltD .abs [.int i])) Q := sat_lft rfl h
theorem sat_int_ {i : Int} (h : Q (.int i)) : SatE X (lft (S := S) (bltD .int_ [.int i])) Q := sat_lft rfl h
theorem sat_min2 {i j : Int} (h : Q (.int (if j < i then j else i))) : SatE X (lft (S := S) (bltD .min2 [.int i, .int j])) Q := sat_lft rfl h
theorem sat_max2 {i j : Int} (h : Q (.int (if j > i then j else i))) : SatE X (lft (S := S) (bltD .max2 [.int i, .int j])) Q := sat_lft rfl h
theorem sat_lenL {xs : List PyData} (h : Q (.int xs.length)) : SatE X (lft (S := S) (bltD .len [.list xs])) Q := sat_lft rfl h
theorem sat_lenT {xs : List PyData} (h : Q (.int xs.length)) : SatE X (lft (S := S) (bltD .len [.tuple xs])) Q := sat_lft rfl h
theorem sat_lenS {x : Str} (h : Q (.int x.length)) : SatE X (lft (S := S) (bltD .len [.str x])) Q := sat_lft rfl h
theorem sat_tupL {xs : List PyData} (h : Q (.tuple xs)) : SatE X (lft (S := S) (bltD .tuple_ [.list xs])) Q := sat_lft rfl h
theorem sat_listL {xs : List PyData} (h : Q (.list xs)) : SatE X (lft (S := S) (bltD .list_ [.list xs])) Q := sat_lft rfl h
theorem sat_listT {xs : List PyData} (h : Q (.list xs)) : SatE X (lft (S := S) (bltD .list_ [.tuple xs])) Q := sat_lft rfl h
theorem sat_ofL {xs : List PyData} {Q : List PyData → Prop} (h : Q xs) : SatE X (lft (S := S) (itemsR (.list xs))) Q := sat_lft rfl h
theorem sat_ofT {xs : List PyData} {Q : List PyData → Prop} (h : Q xs) : SatE X (lft (S := S) (itemsR (.tuple xs))) Q := sat_lft rfl h
theorem sat_nm {i : Nat} {d : PyData} {Q : Env → Prop} (h : Q (ρ.set i (some d))) : SatE X (lft (S := S) (asg (.nm i) d ρ)) Q := sat_lft rfl h
theorem sat_tg {is : List Nat} {ds : List PyData} {Q : Env → Prop} (hl : ds.length = is.length) (h : Q (setAll is ds ρ)) : SatE X (lft (S := S) (asg (.tup is) (.tuple ds) ρ)) Q := sat_lft (by
  show (if ds.length = is.length then R.ok (setAll is ds ρ) else .bad) = _
  rw [if_pos hl]) h
theorem sat_atL {xs : List PyData} {i : Int} {d : PyData} (hi : 0 ≤ i) (e : xs[i.toNat]? = some d) (h : Q d) : SatE X (lft (S := S) (subD (.list xs) (.int i))) Q := sat_lft (by
  show optR (L2.atI xs i) = .ok d
  rw [← Int.toNat_of_nonneg hi, L2.atI_nat e]; rfl) h
theorem sat_atT {xs : List PyData} {i : Int} {d : PyData} (hi : 0 ≤ i) (e : xs[i.toNat]? = some d) (h : Q d) : SatE X (lft (S := S) (subD (.tuple xs) (.int i))) Q := sat_lft (by
  show optR (L2.atI xs i) = .ok d
  rw [← Int.toNat_of_nonneg hi, L2.atI_nat e]; rfl) h
/-- a place of a row that stands there in full -/
theorem sat_atLc {xs : List PyData} {i : Int} {d : PyData} (e : L2.atI xs i = some d) (h : Q d) : SatE X (lft (S := S) (subD (.list xs) (.int i))) Q := sat_lft (by
  show optR (L2.atI xs i) = .ok d
  rw [e]; rfl) h
theorem sat_atTc {xs : List PyData} {i : Int} {d : PyData} (e : L2.atI xs i = some d) (h : Q d) : SatE X (lft (S := S) (subD (.tuple xs) (.int i))) Q := sat_lft (by
  show optR (L2.atI xs i) = .ok d
  rw [e]; rfl) h
theorem sat_call_exc {m : List PyData → R PyData} {xs : List PyData} {x : Str} {l : List PyData} (e : m xs = .exc x l) (h : X x) : SatE X (lft (S := S) (m xs)) Q := sat_exc e h
theorem sat_call_ok {m : List PyData → R PyData} {xs : List PyData} {d : PyData} (e : m xs = .ok d) (h : Q d) : SatE X (lft (S := S) (m xs)) Q := sat_lft e h
theorem sat_take {b : Int} (hb : 0 < b) (h : ∀ v : Int, 0 ≤ v → v < b → Q (.int v)) : SatE X (m_take [.int b]) Q := by
  intro st
  cases st with
  | nil => exact .inl ⟨_, _, rfl, h 0 (by omega) hb⟩
  | cons x r => exact .inl ⟨.int (x % b), r, by
      show (if 0 < b then R.ok (PyData.int (x % b), r) else .bad) = _
      rw [if_pos hb], h _ (Int.emod_nonneg _ (by omega)) (Int.emod_lt_of_pos _ hb)⟩
end
end Mir

set_option Elab.async false
set_option linter.all false
set_option maxRecDepth 100000
/-! Plain part C: digits and texts. -/
namespace Mir
open PySem
/-- the signs of a number's last figures -/
def dgs : Nat → Nat → List Nat
  | 0, _ => []
  | k + 1, n => dgs k (n / 10) ++ [48 + n % 10]
theorem dgs_len : ∀ k n, (dgs k n).length = k
  | 0, _ => rfl
  | k + 1, n => by show (dgs k (n / 10) ++ [48 + n % 10]).length = _; rw [List.length_append, dgs_len k]; rfl
theorem digitChar_nat (d : Nat) (h : Nat.lt d 10) : (Nat.digitChar d).toNat = 48 + d := by
  have : ∀ d : Fin 10, (Nat.digitChar d.val).toNat = 48 + d.val := by decide
  exact this ⟨d, h⟩
/-- the figures of a number that has k of them -/
theorem toDigits_dgs : ∀ (k n : Nat), 10 ^ k ≤ n → n < 10 ^ (k + 1) → (Nat.toDigits 10 n).map Char.toNat = dgs (k + 1) n
  | 0, n, _, h => by
    rw [Nat.toDigits_of_lt_base (by omega)]
    show [(Nat.digitChar n).toNat] = [48 + n % 10]
    rw [digitChar_nat n (by omega), Nat.mod_eq_of_lt (by omega)]
  | k + 1, n, h1, h2 => by
    have p : 0 < 10 ^ k := Nat.pow_pos (by decide)
    have e1 : 10 ^ (k + 1) = 10 ^ k * 10 := Nat.pow_succ ..
    have e2 : 10 ^ (k + 1 + 1) = 10 ^ (k + 1) * 10 := Nat.pow_succ ..
    rw [Nat.toDigits_of_base_le (by decide) (by omega), List.map_append, toDigits_dgs k (n / 10) (by omega) (by omega)]
    show _ = dgs (k + 1) (n / 10) ++ [48 + n % 10]
    rw [List.map_cons, List.map_nil, digitChar_nat _ (Nat.mod_lt _ (by decide))]
theorem str_nat (n : Nat) : Str.ofString (toString (Int.ofNat n)) = ⟨((Nat.toDigits 10 n).map Char.toNat).toArray⟩ := by
  rw [Str.ofString_eq_toList]
  have : (toString (Int.ofNat n)).toList = Nat.toDigits 10 n := by
    show (Nat.repr n).toList = _
    rw [Nat.toList_repr]
  rw [this]
/-- str(n), n of k + 1 figures -/
theorem str_dgs {n : Nat} (k : Nat) (h1 : 10 ^ k ≤ n) (h2 : n < 10 ^ (k + 1)) : Str.ofString (toString (n : Int)) = ⟨(dgs (k + 1) n).toArray⟩ := by
  show Str.ofString (toString (Int.ofNat n)) = _
  rw [str_nat, toDigits_dgs k n h1 h2]
theorem str_fig {n : Nat} (h : n < 10) : Str.ofString (toString (n : Int)) = ⟨#[48 + n]⟩ := by
  show Str.ofString (toString (Int.ofNat n)) = _
  rw [str_nat, Nat.toDigits_of_lt_base h]
  show (⟨[(Nat.digitChar n).toNat].toArray⟩ : Str) = _
  rw [digitChar_nat n h]
theorem sat_strI {S : Type} {X : Str → Prop} {n : Nat} {x : Str} {Q : PyData → Prop} (hn : n < 2 ^ 64) (e : Str.ofString (toString (n : Int)) = x) (h : Q (.str x)) : SatE X (lft (S := S) (bltD .str_ [.int (n : Int)])) Q := sat_lft (by
  show (if ((n : Int)).natAbs.log2 < 1920 then R.ok (PyData.str (Str.ofString (toString (n : Int)))) else .bad) = _
  have h1 : n.log2 < 1920 := by
    by_cases h0 : n = 0
    · subst h0; decide
    · exact Nat.lt_of_lt_of_le ((Nat.log2_lt h0).mpr hn) (by decide)
  rw [if_pos (by rw [Int.natAbs_natCast]; exact h1), e]) h
/-! int(..) of figures -/
theorem sat_intF {S : Type} {X : Str → Prop} {l : List Nat} {n : Nat} {Q : PyData → Prop} (h : NumText.AllDigits l) (h0 : l ≠ []) (hl : l.length ≤ 640) (e : NumText.digitsVal l = n) (g : Q (.int (n : Int))) : SatE X (lft (S := S) (bltD .int_ [.str ⟨l.toArray⟩])) Q := sat_lft (by
  show (match PySem.intText? ⟨l.toArray⟩ with
    | some n => if (⟨l.toArray⟩ : Str).length ≤ 640 then R.ok (PyData.int n) else .bad
    | none => .bad) = _
  have hs : (⟨l.toArray⟩ : Str).length = l.length := List.size_toArray ..
  rw [PySem.intText_digits (x := ⟨l.toArray⟩) h h0 (by rw [hs]; omega)]
  show (if _ then _ else _) = _
  rw [if_pos (by rw [hs]; exact hl), e]) g
/-! slices -/
theorem sIx_nat' (n d : Nat) {i : Int} (h0 : 0 ≤ i) (h1 : i ≤ n) : HT.sIx n d (some i) = i.toNat := by
  show (if i < 0 then (i + (n : Int)).toNat else min i.toNat n) = i.toNat
  rw [if_neg (by omega)]
  omega
theorem strL_len (l : List Nat) : (⟨l.toArray⟩ : Str).length = l.length := List.size_toArray ..
theorem cutS_mid {l : List Nat} {a b : Int} (h0 : 0 ≤ a) (h1 : a ≤ b) (h2 : b ≤ l.length) : Mir.cutS ⟨l.toArray⟩ (some a) (some b) = ⟨((l.drop a.toNat).take (b.toNat - a.toNat)).toArray⟩ := by
  show (⟨((l.toArray.toList.drop (HT.sIx (⟨l.toArray⟩ : Str).length 0 (some a))).take _).toArray⟩ : Str) = _
  rw [strL_len, sIx_nat' _ _ h0 (by omega), sIx_nat' _ _ (by omega) h2]
theorem cutS_lo {l : List Nat} {a : Int} (h0 : 0 ≤ a) (h2 : a ≤ l.length) : Mir.cutS ⟨l.toArray⟩ (some a) none = ⟨(l.drop a.toNat).toArray⟩ := by
  show (⟨((l.toArray.toList.drop (HT.sIx (⟨l.toArray⟩ : Str).length 0 (some a))).take (HT.sIx (⟨l.toArray⟩ : Str).length (⟨l.toArray⟩ : Str).length none - _)).toArray⟩ : Str) = _
  rw [strL_len, sIx_nat' _ _ h0 h2, HT.sIx_none, List.take_of_length_le (by simp)]
theorem cutS_hi {l : List Nat} {b : Int} (h0 : 0 ≤ b) (h2 : b ≤ l.length) : Mir.cutS ⟨l.toArray⟩ none (some b) = ⟨(l.take b.toNat).toArray⟩ := by
  show (⟨((l.toArray.toList.drop (HT.sIx (⟨l.toArray⟩ : Str).length 0 none)).take _).toArray⟩ : Str) = _
  rw [strL_len, sIx_nat' _ _ h0 h2, HT.sIx_none]
  rfl
theorem sat_cutS {S : Type} {X : Str → Prop} {l : List Nat} {a b : Int} {Q : PyData → Prop} (h0 : 0 ≤ a) (h1 : a ≤ b) (h2 : b ≤ l.length) (h : Q (.str ⟨((l.drop a.toNat).take (b.toNat - a.toNat)).toArray⟩)) : SatE X (lft (S := S) (cutX (.str ⟨l.toArray⟩) (some a) (some b))) Q := sat_lft (by
  show R.ok (PyData.str (Mir.cutS _ _ _)) = _
  rw [cutS_mid h0 h1 h2]) h
theorem sat_cutSl {S : Type} {X : Str → Prop} {l : List Nat} {a : Int} {Q : PyData → Prop} (h0 : 0 ≤ a) (h2 : a ≤ l.length) (h : Q (.str ⟨(l.drop a.toNat).toArray⟩)) : SatE X (lft (S := S) (cutX (.str ⟨l.toArray⟩) (some a) none)) Q := sat_lft (by
  show R.ok (PyData.str (Mir.cutS _ _ _)) = _
  rw [cutS_lo h0 h2]) h
theorem sat_cutSh {S : Type} {X : Str → Prop} {l : List Nat} {b : Int} {Q : PyData → Prop} (h0 : 0 ≤ b) (h2 : b ≤ l.length) (h : Q (.str ⟨(l.take b.toNat).toArray⟩)) : SatE X (lft (S := S) (cutX (.str ⟨l.toArray⟩) none (some b))) Q := sat_lft (by
  show R.ok (PyData.str (Mir.cutS _ _ _)) = _
  rw [cutS_hi h0 h2]) h
theorem cutD_mid {l : List PyData} {a b : Int} (h0 : 0 ≤ a) (h1 : a ≤ b) (h2 : b ≤ l.length) : cutD l (some a) (some b) = (l.drop a.toNat).take (b.toNat - a.toNat) := by
  show (l.drop (HT.sIx l.length 0 (some a))).take (HT.sIx l.length l.length (some b) - HT.sIx l.length 0 (some a)) = _
  rw [sIx_nat' _ _ h0 (by omega), sIx_nat' _ _ (by omega) h2]
theorem cutD_lo {l : List PyData} {a : Int} (h0 : 0 ≤ a) (h2 : a ≤ l.length) : cutD l (some a) none = l.drop a.toNat := by
  show (l.drop (HT.sIx l.length 0 (some a))).take (HT.sIx l.length l.length none - HT.sIx l.length 0 (some a)) = _
  rw [sIx_nat' _ _ h0 h2, HT.sIx_none, List.take_of_length_le (by simp)]
theorem cutD_hi {l : List PyData} {b : Int} (h0 : 0 ≤ b) (h2 : b ≤ l.length) : cutD l none (some b) = l.take b.toNat := by
  show (l.drop (HT.sIx l.length 0 none)).take (HT.sIx l.length l.length (some b) - HT.sIx l.length 0 none) = _
  rw [sIx_nat' _ _ h0 h2, HT.sIx_none]
  rfl
theorem sat_cutLh {S : Type} {X : Str → Prop} {l : List PyData} {b : Int} {Q : PyData → Prop} (h0 : 0 ≤ b) (h2 : b ≤ l.length) (h : Q (.list (l.take b.toNat))) : SatE X (lft (S := S) (cutX (.list l) none (some b))) Q := sat_lft (by
  show R.ok (PyData.list (cutD _ _ _)) = _
  rw [cutD_hi h0 h2]) h
theorem sat_cutLl {S : Type} {X : Str → Prop} {l : List PyData} {b : Int} {Q : PyData → Prop} (h0 : 0 ≤ b) (h2 : b ≤ l.length) (h : Q (.list (l.drop b.toNat))) : SatE X (lft (S := S) (cutX (.list l) (some b) none)) Q := sat_lft (by
  show R.ok (PyData.list (cutD _ _ _)) = _
  rw [cutD_lo h0 h2]) h
theorem sat_cutTh {S : Type} {X : Str → Prop} {l : List PyData} {b : Int} {Q : PyData → Prop} (h0 : 0 ≤ b) (h2 : b ≤ l.length) (h : Q (.tuple (l.take b.toNat))) : SatE X (lft (S := S) (cutX (.tuple l) none (some b))) Q := sat_lft (by
  show R.ok (PyData.tuple (cutD _ _ _)) = _
  rw [cutD_hi h0 h2]) h
theorem strA (a b : List Nat) : (⟨a.toArray⟩ : Str) ++ ⟨b.toArray⟩ = ⟨(a ++ b).toArray⟩ := by
  show (⟨a.toArray ++ b.toArray⟩ : Str) = _
  rw [List.append_toArray]
theorem sat_addSL {S : Type} {X : Str → Prop} {a b : List Nat} {Q : PyData → Prop} (g : a.length + b.length ≤ 2 ^ 24) (h : Q (.str ⟨(a ++ b).toArray⟩)) : SatE X (lft (S := S) (binD .Add (.str ⟨a.toArray⟩) (.str ⟨b.toArray⟩))) Q :=
  sat_addS (by rw [strL_len, strL_len]; exact g) (by rw [strA]; exact h)
/-! more operations -/
theorem sat_atTe {S : Type} {X : Str → Prop} {xs : List PyData} {i : Int} {Q : PyData → Prop} (h : ∃ d, L2.atI xs i = some d ∧ Q d) : SatE X (lft (S := S) (subD (.tuple xs) (.int i))) Q := by
  obtain ⟨d, e, h⟩ := h
  exact sat_atTc e h
theorem sat_atLe {S : Type} {X : Str → Prop} {xs : List PyData} {i : Int} {Q : PyData → Prop} (h : ∃ d, L2.atI xs i = some d ∧ Q d) : SatE X (lft (S := S) (subD (.list xs) (.int i))) Q := by
  obtain ⟨d, e, h⟩ := h
  exact sat_atLc e h
theorem lcf_i {S : Type} {elt : E S} {tg : Tg} {c : E S} {ρ : Env} {x : PyData} {G : Option PyData → Prop} (h : Sat (lft (S := S) (asg tg x ρ)) fun ρ' => Sat (ev c ρ') fun t => if truthy t = true then Sat (ev elt ρ') fun y => G (some y) else G none) : LcF S elt tg c ρ x G := h
theorem sat_allC {S : Type} {X : Str → Prop} {xs : List PyData} {Q : PyData → Prop} (h : Q (.bool true)) : SatE X (lft (S := S) (bltD .all_ [.list (xs.filterMap fun _ => some (PyData.bool true))])) Q := sat_lft (by
  show (if ((xs.filterMap fun _ => some (PyData.bool true)).all okD) = true then R.ok (PyData.bool ((xs.filterMap fun _ => some (PyData.bool true)).all truthy)) else .bad) = .ok (PyData.bool true)
  have e1 : (xs.filterMap fun _ => some (PyData.bool true)).all okD = true := by
    simp only [List.all_eq_true, List.mem_filterMap]
    rintro x ⟨y, _, e⟩
    cases e; rfl
  have e2 : (xs.filterMap fun _ => some (PyData.bool true)).all truthy = true := by
    simp only [List.all_eq_true, List.mem_filterMap]
    rintro x ⟨y, _, e⟩
    cases e; rfl
  rw [e1, e2]; rfl) h
theorem sat_atS {S : Type} {X : Str → Prop} {l : List Nat} {i : Int} {c : Nat} {Q : PyData → Prop} (hi : 0 ≤ i) (e : l[i.toNat]? = some c) (h : Q (.str ⟨#[c]⟩)) : SatE X (lft (S := S) (subD (.str ⟨l.toArray⟩) (.int i))) Q := sat_lft (by
  show optR ((L2.atI l i).map fun c => PyData.str ⟨#[c]⟩) = _
  rw [← Int.toNat_of_nonneg hi, L2.atI_nat e]; rfl) h
theorem sat_signS {S : Type} {X : Str → Prop} {l : List Nat} {Q : List PyData → Prop} (h : Q (l.map fun c => .str ⟨#[c]⟩)) : SatE X (lft (S := S) (signD (.str ⟨l.toArray⟩))) Q := sat_lft rfl h
theorem rangeD_get {lo : Int} {n k : Nat} (hk : k < (rangeD lo n).length) : (rangeD lo n)[k] = .int (lo + k) := by
  have h2 : k < ((List.range n).map fun (k : Nat) => PyData.int (lo + (k : Int))).length := hk
  show ((List.range n).map fun (k : Nat) => PyData.int (lo + (k : Int)))[k] = _
  rw [List.getElem_map, List.getElem_range]
theorem rangeD_len (lo : Int) (n : Nat) : (rangeD lo n).length = n := by
  unfold rangeD
  simp
theorem sat_conv {S α : Type} {X : Str → Prop} {m m' : M S α} {Q : α → Prop} (e : m = m') (h : SatE X m' Q) : SatE X m Q := e ▸ h
theorem sat_eqT {S : Type} {X : Str → Prop} {a b : PyData} {Q : PyData → Prop} (ga : okD a = true) (gb : okD b = true) (h : Q (.bool (PyData.eqv a b))) : SatE X (lft (S := S) (cmpD .Eq a b)) Q := sat_lft (by rw [cmpD_eq, ga, gb]; rfl) h
theorem sat_neT {S : Type} {X : Str → Prop} {a b : PyData} {Q : PyData → Prop} (ga : okD a = true) (gb : okD b = true) (h : Q (.bool (!PyData.eqv a b))) : SatE X (lft (S := S) (cmpD .NotEq a b)) Q := sat_lft (by rw [cmpD_ne, ga, gb]; rfl) h
/-! loops round by round -/
theorem sat_forU {S : Type} {X : Str → Prop} {ρ : Env} {F : Fl → Prop} {li : List Nat} {tg : Tg} {it : It S} {body : Sts S} (h : SatE X (evIt it ρ) fun xs => SatE X (forGo (fun x ρ => bnd (lft (Mir.asg tg x ρ)) fun ρ' => runs body ρ') xs ρ) F) : SatE X (run (.for_ li tg it body) ρ) F := by
  unfold run; exact sat_bnd h
theorem fg_nil {S : Type} {X : Str → Prop} {ρ : Env} {F : Fl → Prop} {f : PyData → Env → M S Fl} (h : F (.nx ρ)) : SatE X (forGo f [] ρ) F := sat_ret h
def Fx {S : Type} {X : Str → Prop} (f : PyData → Env → M S Fl) (xs : List PyData) (F : Fl → Prop) : Fl → Prop
  | .nx ρ => SatE X (forGo f xs ρ) F
  | .cnt ρ => SatE X (forGo f xs ρ) F
  | .brk ρ => F (.nx ρ)
  | .ret d => F (.ret d)
theorem fg_cons {S : Type} {X : Str → Prop} {ρ : Env} {F : Fl → Prop} {tg : Tg} {body : Sts S} {x : PyData} {xs : List PyData} (h : SatE X (lft (S := S) (asg tg x ρ)) fun ρ' => SatE X (runs body ρ') (Fx (X := X) (fun x ρ => bnd (lft (Mir.asg tg x ρ)) fun ρ' => runs body ρ') xs F)) :
    SatE X (forGo (fun x ρ => bnd (lft (Mir.asg tg x ρ)) fun ρ' => runs body ρ') (x :: xs) ρ) F := sat_bnd ((sat_bnd h).imp fun fl g => by
  cases fl with
  | nx ρ' => exact g
  | cnt ρ' => exact g
  | brk ρ' => exact sat_ret g
  | ret d => exact sat_ret g)
theorem fx_nx {S : Type} {X : Str → Prop} {ρ : Env} {F : Fl → Prop} {f : PyData → Env → M S Fl} {xs : List PyData} (h : SatE X (forGo f xs ρ) F) : Fx (X := X) f xs F (.nx ρ) := h
theorem fx_ret {S : Type} {X : Str → Prop} {d : PyData} {F : Fl → Prop} {f : PyData → Env → M S Fl} {xs : List PyData} (h : F (.ret d)) : Fx (X := X) f xs F (.ret d) := h
theorem sat_strF {S : Type} {X : Str → Prop} {i : Int} {Q : PyData → Prop} (g : 0 ≤ i ∧ i < 10) (h : Q (.str ⟨[48 + i.toNat].toArray⟩)) : SatE X (lft (S := S) (bltD .str_ [.int i])) Q := by
  obtain ⟨k, rfl⟩ := Int.eq_ofNat_of_zero_le g.1
  exact sat_strI (by omega) (str_fig (by omega)) h
/-! least ones -/
abbrev T2 (d : Int) (i : Int) : PyData := .tuple [.int d, .int i]
theorem t2_lt (a i b j : Int) : W.dataLt (T2 a i) (T2 b j) = (decide (a < b) || (decide (a = b) && decide (i < j))) := by
  show PyProof.Rows.lexLt PyProof.Rows.itemOrd (.inl 1 :: ([.inl a] ++ (.inl 1 :: ([.inl i] ++ [.inl 0])))) (.inl 1 :: ([.inl b] ++ (.inl 1 :: ([.inl j] ++ [.inl 0])))) = _
  simp only [List.cons_append, List.nil_append, PyProof.Rows.lex_cons]
  show (decide ((1 : Int) < 1) || (!decide ((1 : Int) < 1) && (decide (a < b) || (!decide (b < a) && (decide ((1 : Int) < 1) || (!decide ((1 : Int) < 1) && (decide (i < j) || (!decide (j < i) && (decide ((0 : Int) < 0) || (!decide ((0 : Int) < 0) && PyProof.Rows.lexLt PyProof.Rows.itemOrd [] [])))))))))) = _
  have e : PyProof.Rows.lexLt PyProof.Rows.itemOrd [] [] = false := rfl
  rw [e]
  have h1 : decide ((1 : Int) < 1) = false := by decide
  have h0 : decide ((0 : Int) < 0) = false := by decide
  rw [h1, h0]
  simp only [Bool.not_false, Bool.true_and, Bool.false_or, Bool.and_false, Bool.or_false]
  by_cases c1 : a < b
  · simp [c1]
  · by_cases c2 : b < a
    · simp [c1, c2, show ¬ a = b by omega]
    · simp [c1, c2, show a = b by omega]
/-- the first of the least of rows of pairs -/
theorem min_fold : ∀ (ds : List Int) (d i : Int) (j : Nat), i < j → ∃ (k : Nat) (m : Int), (ds.zipIdx j |>.map fun p => T2 p.1 (p.2 : Nat)).foldl (fun a y => if W.dataLt y a then y else a) (T2 d i) = T2 m (if k = 0 then i else (j + k - 1 : Nat)) ∧ k ≤ ds.length ∧ (d :: ds)[k]? = some m ∧ (∀ y ∈ d :: ds, m ≤ y) ∧ ∀ l y, l < k → (d :: ds)[l]? = some y → m < y
  | [], d, i, j, _ => ⟨0, d, rfl, Nat.le_refl _, rfl, fun y hy => by rcases List.mem_singleton.mp hy with rfl; omega, fun l _ h => absurd h (Nat.not_lt_zero _)⟩
  | x :: ds, d, i, j, h => by
    rw [List.zipIdx_cons, List.map_cons, List.foldl_cons]
    by_cases c : x < d
    · obtain ⟨k, m, e, h1, h2, h3, h4⟩ := min_fold ds x (j : Nat) (j + 1) (by omega)
      refine ⟨k + 1, m, ?_, by simpa using h1, h2, fun y hy => ?_, fun l y hl hy => ?_⟩
      · rw [if_pos (by rw [t2_lt]; simp [c]), e]
        have e1 : (if k = 0 then (j : Int) else ((j + 1 + k - 1 : Nat) : Int)) = ((j + (k + 1) - 1 : Nat) : Int) := by split <;> omega
        rw [e1, if_neg (Nat.succ_ne_zero k)]
      · cases hy with
        | head => have := h3 x (.head _); omega
        | tail _ hy => exact h3 y hy
      · cases l with
        | zero => cases hy; have := h3 x (.head _); omega
        | succ l => exact h4 l y (by omega) hy
    · have hn : W.dataLt (T2 x (j : Nat)) (T2 d i) = false := by
        rw [t2_lt]
        simp [c]
        omega
      obtain ⟨k, m, e, h1, h2, h3, h4⟩ := min_fold ds d i (j + 1) (by omega)
      refine ⟨if k = 0 then 0 else k + 1, m, ?_, ?_, ?_, fun y hy => ?_, fun l y hl hy => ?_⟩
      · rw [if_neg (by simp only; rw [hn]; decide), e]
        by_cases hk : k = 0
        · simp [hk]
        · rw [if_neg hk, if_neg hk, if_neg (Nat.succ_ne_zero k), show j + 1 + k - 1 = j + (k + 1) - 1 by omega]
      · split <;> simp only [List.length_cons] <;> omega
      · cases k with
        | zero => exact h2
        | succ k => exact h2
      · cases hy with
        | head => exact h3 d (.head _)
        | tail _ hy =>
          cases hy with
          | head => have := h3 d (.head _); omega
          | tail _ hy => exact h3 y (.tail _ hy)
      · cases k with
        | zero => exact absurd hl (Nat.not_lt_zero _)
        | succ k =>
          have hd := h4 0 d (by omega) rfl
          cases l with
          | zero => cases hy; exact hd
          | succ l =>
            cases l with
            | zero => cases hy; omega
            | succ l =>
              refine h4 (l + 1) y ?_ hy
              simp only [Nat.add_one_ne_zero, if_false] at hl
              omega
theorem alikes_of {l : List PyData} (h1 : ∀ a ∈ l, okD a = true ∧ isNone a = false) (h2 : ∀ a ∈ l, ∀ b ∈ l, W.alike a b = true) : alikes l = true := by
  unfold alikes
  simp only [List.all_eq_true, Bool.and_eq_true, Bool.not_eq_true']
  exact fun a ha => ⟨⟨(h1 a ha).1, (h1 a ha).2⟩, fun b hb => h2 a ha b hb⟩
theorem sat_minT {S : Type} {X : Str → Prop} {ds : List Int} {Q : PyData → Prop} (h0 : ds ≠ []) (h : ∀ (k : Nat) (m : Int), ds[k]? = some m → (∀ y ∈ ds, m ≤ y) → (∀ l y, l < k → ds[l]? = some y → m < y) → Q (T2 m k)) :
    SatE X (lft (S := S) (bltD .min1 [.list (ds.zipIdx.map fun p => T2 p.1 (p.2 : Nat))])) Q := by
  cases ds with
  | nil => exact absurd rfl h0
  | cons d ds =>
    obtain ⟨k, m, e, h1, h2, h3, h4⟩ := min_fold ds d 0 1 (by omega)
    refine sat_lft (a := T2 m k) ?_ (h k m h2 h3 h4)
    show (if alikes ((d :: ds).zipIdx.map fun p => T2 p.1 (p.2 : Nat)) = true then R.ok (W.minD (T2 d (0 : Nat)) ((ds.zipIdx 1).map fun p => T2 p.1 (p.2 : Nat))) else .bad) = _
    rw [if_pos (alikes_of ?_ ?_)]
    · unfold W.minD
      show R.ok (List.foldl _ (T2 d 0) _) = _
      rw [e]
      congr 3
      cases k with
      | zero => rfl
      | succ k => simp only [Nat.add_one_ne_zero, if_false]; congr 1; omega
    · intro a ha
      obtain ⟨p, _, rfl⟩ := List.mem_map.mp ha
      exact ⟨rfl, rfl⟩
    · intro a ha b hb
      obtain ⟨p, _, rfl⟩ := List.mem_map.mp ha
      obtain ⟨q, _, rfl⟩ := List.mem_map.mp hb
      rfl
theorem fold_min : ∀ (ns : List Int) (n m : Int), m ∈ n :: ns → (∀ y ∈ n :: ns, m ≤ y) → ns.foldl min n = m
  | [], n, m, h, _ => by rcases List.mem_singleton.mp h with rfl; rfl
  | x :: ns, n, m, h, g => by
    rw [List.foldl_cons]
    refine fold_min ns (min n x) m ?_ fun y hy => ?_
    · rcases List.mem_cons.mp h with rfl | h
      · have := g x (.tail _ (.head _))
        rw [Int.min_eq_left this]; exact .head _
      · rcases List.mem_cons.mp h with rfl | h
        · have := g n (.head _)
          rw [Int.min_eq_right this]; exact .head _
        · exact .tail _ h
    · rcases List.mem_cons.mp hy with rfl | hy
      · have h1 := g n (.head _)
        have h2 := g x (.tail _ (.head _))
        omega
      · exact g y (.tail _ (.tail _ hy))
theorem sat_minI {S : Type} {X : Str → Prop} {ds : List Int} {m : Int} {Q : PyData → Prop} (hm : m ∈ ds) (h1 : ∀ y ∈ ds, m ≤ y) (h : Q (.int m)) : SatE X (lft (S := S) (bltD .min1 [.list (ds.map PyData.int)])) Q := by
  cases ds with
  | nil => cases hm
  | cons d ds =>
    refine sat_lft (a := .int m) ?_ h
    show (if alikes ((d :: ds).map PyData.int) = true then R.ok (W.minD (.int d) (ds.map PyData.int)) else .bad) = _
    rw [if_pos (alikes_of ?_ ?_), W.minD_ints, fold_min ds d m hm h1]
    · intro a ha
      obtain ⟨p, _, rfl⟩ := List.mem_map.mp ha
      exact ⟨rfl, rfl⟩
    · intro a ha b hb
      obtain ⟨p, _, rfl⟩ := List.mem_map.mp ha
      obtain ⟨q, _, rfl⟩ := List.mem_map.mp hb
      rfl
theorem fold_max : ∀ (ns : List Int) (n : Int), ns.foldl max n ∈ n :: ns ∧ ∀ y ∈ n :: ns, y ≤ ns.foldl max n
  | [], n => ⟨.head _, fun y h => by rcases List.mem_singleton.mp h with rfl; exact Int.le_refl _⟩
  | x :: ns, n => by
    obtain ⟨h1, h2⟩ := fold_max ns (max n x)
    rw [List.foldl_cons]
    refine ⟨?_, fun y hy => ?_⟩
    · rcases List.mem_cons.mp h1 with e | h1
      · rw [e]
        by_cases c : n ≤ x
        · rw [Int.max_eq_right c]; exact .tail _ (.head _)
        · rw [Int.max_eq_left (by omega)]; exact .head _
      · exact .tail _ (.tail _ h1)
    · have h3 := h2 (max n x) (.head _)
      rcases List.mem_cons.mp hy with rfl | hy
      · omega
      · rcases List.mem_cons.mp hy with rfl | hy
        · omega
        · exact h2 y (.tail _ hy)
theorem sat_maxE {S : Type} {X : Str → Prop} {ds : List Int} {Q : PyData → Prop} (h0 : ds ≠ []) (h : ∀ m, m ∈ ds → (∀ y ∈ ds, y ≤ m) → Q (.int m)) : SatE X (lft (S := S) (bltD .max1 [.list (ds.map PyData.int)])) Q := by
  cases ds with
  | nil => exact absurd rfl h0
  | cons d ds =>
    obtain ⟨h1, h2⟩ := fold_max ds d
    refine sat_lft (a := .int (ds.foldl max d)) ?_ (h _ h1 h2)
    show (if alikes ((d :: ds).map PyData.int) = true then R.ok (W.maxD (.int d) (ds.map PyData.int)) else .bad) = _
    rw [if_pos (alikes_of ?_ ?_), W.maxD_ints]
    · intro a ha
      obtain ⟨p, _, rfl⟩ := List.mem_map.mp ha
      exact ⟨rfl, rfl⟩
    · intro a ha b hb
      obtain ⟨p, _, rfl⟩ := List.mem_map.mp ha
      obtain ⟨q, _, rfl⟩ := List.mem_map.mp hb
      rfl
theorem allInts_map : ∀ ns : List Int, allInts (ns.map PyData.int) = some ns
  | [] => rfl
  | n :: ns => by
    show (allInts (ns.map PyData.int)).map (n :: ·) = _
    rw [allInts_map ns]; rfl
theorem sat_sumI {S : Type} {X : Str → Prop} {ds : List Int} {Q : PyData → Prop} (h : Q (.int ds.sum)) : SatE X (lft (S := S) (bltD .sum [.list (ds.map PyData.int)])) Q := by
  refine sat_lft (a := .int ds.sum) ?_ h
  show (match allInts (ds.map PyData.int) with
    | some ns => R.ok (PyData.int ns.sum)
    | none => .bad) = _
  rw [allInts_map]
/-! figures -/
theorem dgs_all : ∀ k n, NumText.AllDigits (dgs k n)
  | 0, _ => fun _ h => nomatch h
  | k + 1, n => fun c h => by
    rcases List.mem_append.mp h with h | h
    · exact dgs_all k _ c h
    · rcases List.mem_singleton.mp h with rfl
      omega
theorem dgs_val : ∀ k n, n < 10 ^ k → NumText.digitsVal (dgs k n) = n
  | 0, n, h => by
    have : n = 0 := by omega
    subst this; rfl
  | k + 1, n, h => by
    have e1 : 10 ^ (k + 1) = 10 ^ k * 10 := Nat.pow_succ ..
    show NumText.digitsVal (dgs k (n / 10) ++ [48 + n % 10]) = n
    rw [NumText.digitsVal_snoc, dgs_val k _ (by omega)]
    omega
theorem dgs_inj {k a b : Nat} (ha : a < 10 ^ k) (hb : b < 10 ^ k) (e : dgs k a = dgs k b) : a = b := by
  rw [← dgs_val k a ha, ← dgs_val k b hb, e]
theorem dgs_take : ∀ (j k n : Nat), (dgs (k + j) n).take k = dgs k (n / 10 ^ j)
  | 0, k, n => by rw [Nat.pow_zero, Nat.div_one]; exact List.take_of_length_le (by rw [Nat.add_zero, dgs_len]; omega)
  | j + 1, k, n => by
    show (dgs (k + j) (n / 10) ++ [48 + n % 10]).take k = _
    rw [List.take_append_of_le_length (by rw [dgs_len]; omega), dgs_take j k, Nat.div_div_eq_div_mul, ← Nat.pow_succ']
end Mir

set_option Elab.async false
set_option linter.all false
set_option maxRecDepth 100000
set_option maxHeartbeats 4000000
/-! Plain part D: the draws. -/
local macro_rules
  | `(tactic| array_get_dec) => `(tactic| first
    | with_reducible refine Mir.sat_v ?_
    | with_reducible refine Mir.sat_int ?_
    | with_reducible refine Mir.sat_cons ?_
    | with_reducible refine Mir.sat_nil ?_
    | with_reducible refine Mir.sat_call ?_
    | with_reducible refine Mir.sat_glob ?_
    | with_reducible refine Mir.sat_bin ?_
    | with_reducible refine Mir.sat_cmp ?_
    | with_reducible refine Mir.sat_blt ?_
    | with_reducible refine Mir.sat_sub ?_
    | with_reducible refine Mir.sat_callS ?_
    | with_reducible refine Mir.sat_tup ?_
    | with_reducible refine Mir.sat_lst ?_
    | with_reducible refine Mir.sat_one ?_
    | with_reducible refine Mir.sat_not ?_
    | with_reducible refine Mir.sat_and ?_
    | with_reducible refine Mir.sat_or ?_
    | with_reducible refine Mir.sat_cond ?_
    | with_reducible refine Mir.sat_chain ?_
    | with_reducible refine Mir.sat_bl ?_
    | with_reducible refine Mir.sat_non ?_
    | with_reducible refine Mir.sat_isa ?_
    | with_reducible refine Mir.sat_subG ?_
    | with_reducible refine Mir.sat_op1 ?_
    | with_reducible refine Mir.sat_op2 ?_
    | with_reducible refine Mir.sat_slL ?_
    | with_reducible refine Mir.sat_slH ?_
    | with_reducible refine Mir.sat_sl ?_
    | with_reducible refine Mir.sat_neg ?_
    | with_reducible refine Mir.sat_dict0 ?_
    | with_reducible refine Mir.sat_of ?_
    | with_reducible refine Mir.sat_range1 ?_
    | with_reducible refine Mir.sat_range2 ?_
    | with_reducible refine Mir.sat_zip ?_
    | with_reducible refine Mir.sat_enum ?_
    | with_reducible refine Mir.sat_sign ?_
    | with_reducible refine Mir.sat_end ?_
    | with_reducible refine Mir.sat_set ?_
    | with_reducible refine Mir.sat_setT ?_
    | with_reducible refine Mir.sat_asg ?_
    | with_reducible refine Mir.sat_par ?_
    | with_reducible refine Mir.sat_app ?_
    | with_reducible refine Mir.sat_setItem ?_
    | with_reducible refine Mir.sat_aug ?_
    | with_reducible refine Mir.sat_expr ?_
    | with_reducible refine Mir.sat_retE ?_
    | with_reducible refine Mir.sat_retN ?_
    | with_reducible refine Mir.sat_pass ?_
    | with_reducible refine Mir.sat_brk ?_
    | with_reducible refine Mir.sat_cnt ?_
    | with_reducible refine Mir.sat_if ?_
    | with_reducible refine Mir.lcf_i ?_
    | with_reducible refine Mir.sat_pick ?_
    | with_reducible refine Mir.sat_range3 ?_
    | with_reducible refine Mir.sat_revw ?_
    | with_reducible refine Mir.sat_raise ?_
    | with_reducible refine Mir.fx_nx ?_
    | with_reducible refine Mir.fx_ret ?_
    | with_reducible refine Mir.fg_nil ?_
    | with_reducible refine Mir.sat_allC ?_
    | with_reducible refine Mir.kx_nx ?_
    | with_reducible refine Mir.kx_ret ?_
    | with_reducible refine Mir.kx_brk ?_
    | with_reducible refine Mir.kx_cnt ?_
    | with_reducible refine Mir.rnd_nx ?_
    | with_reducible refine Mir.rnd_ret ?_
    | with_reducible refine Mir.rnd_brk ?_
    | with_reducible refine Mir.rnd_cnt ?_
    | with_reducible refine Mir.fin_ret ?_
    | with_reducible refine Mir.fin_nx ?_
    | ((with_reducible refine Mir.sat_str ?_ ?_); · decide +kernel))
local macro_rules
  | `(tactic| array_mem_dec) => `(tactic| first
    | with_reducible refine Mir.sat_addI ?_
    | with_reducible refine Mir.sat_subI ?_
    | with_reducible refine Mir.sat_ltI ?_
    | with_reducible refine Mir.sat_gtI ?_
    | with_reducible refine Mir.sat_leI ?_
    | with_reducible refine Mir.sat_geI ?_
    | with_reducible refine Mir.sat_eqI ?_
    | with_reducible refine Mir.sat_neI ?_
    | with_reducible refine Mir.sat_is ?_
    | with_reducible refine Mir.sat_isnt ?_
    | with_reducible refine Mir.sat_eqS ?_
    | with_reducible refine Mir.sat_neB ?_
    | with_reducible refine Mir.sat_eqB ?_
    | with_reducible refine Mir.sat_neS ?_
    | with_reducible refine Mir.sat_abs ?_
    | with_reducible refine Mir.sat_int_ ?_
    | with_reducible refine Mir.sat_min2 ?_
    | with_reducible refine Mir.sat_max2 ?_
    | with_reducible refine Mir.sat_lenL ?_
    | with_reducible refine Mir.sat_lenT ?_
    | with_reducible refine Mir.sat_lenS ?_
    | with_reducible refine Mir.sat_tupL ?_
    | with_reducible refine Mir.sat_listL ?_
    | with_reducible refine Mir.sat_listT ?_
    | with_reducible refine Mir.sat_ofL ?_
    | with_reducible refine Mir.sat_ofT ?_
    | with_reducible refine Mir.sat_nm ?_
    | with_reducible refine Mir.if_T ?_
    | with_reducible refine Mir.if_F ?_
    | ((with_reducible refine Mir.sat_mulI ?_ ?_); · first | exact Or.inr rfl | exact Or.inl rfl | exact Or.inr (Mir.small_of (by omega)) | exact Or.inl (Mir.small_of (by omega)))
    | ((with_reducible refine Mir.sat_divI ?_ ?_); · omega)
    | ((with_reducible refine Mir.sat_modI ?_ ?_); · omega)
    | ((with_reducible refine Mir.sat_tg ?_ ?_); · exact rfl)
    | ((with_reducible refine Mir.sat_atLe ?_); refine ⟨_, rfl, ?_⟩)
    | ((with_reducible refine Mir.sat_atTe ?_); refine ⟨_, rfl, ?_⟩)
    | with_reducible refine Mir.if_not' ?_
    | with_reducible refine Mir.if_not ?_
    | ((with_reducible refine Mir.if_decT ?_ ?_); · omega)
    | ((with_reducible refine Mir.if_decF ?_ ?_); · omega)
    | refine ⟨_, rfl, ?_⟩
    | refine ⟨rfl, ?_⟩
    | refine ⟨Nat.le_of_ble_eq_true rfl, ?_⟩
    | refine ⟨by decide, ?_⟩
    | refine Mir.if_rT rfl ?_
    | refine Mir.if_rF rfl ?_)
local macro_rules
  | `(tactic| sizeOf_list_dec) => `(tactic| repeat (first | array_get_dec | array_mem_dec))
local macro_rules
  | `(tactic| clean_wf) => `(tactic| repeat (first | array_get_dec | array_mem_dec | with_reducible refine Mir.sat_st ?_))

namespace Mir
open PySem
theorem drawsR_ok {n cell : Nat} {p1 p2 p3 : Sts Unit} {ns : List Int} (h : Sat (runs p1 (List.replicate n none)) fun fl => ∃ ρ, fl = .nx ρ ∧ Sat (forGo (fun x ρ => bnd (lft (asg (.nm cell) x ρ)) fun ρ' => runs p2 ρ') (ns.map PyData.int) ρ) fun fl => ∃ ρ, fl = .nx ρ ∧ Sat (runs p3 ρ) fun fl => ∃ st : List Int, fl = .ret (.list (st.map PyData.int)) ∧ st.length ≤ sizeLine) :
    ∃ st : List Int, drawsR n cell p1 p2 p3 ns = .ok (.ret (.list (st.map PyData.int)), ()) ∧ st.length ≤ sizeLine := by
  obtain ⟨_, s1, e1, ρ1, rfl, h⟩ := h.get ()
  obtain ⟨_, s2, e2, ρ2, rfl, h⟩ := h.get s1
  obtain ⟨_, s3, e3, st, rfl, hl⟩ := h.get s2
  refine ⟨st, ?_, hl⟩
  unfold drawsR
  rw [e1]
  show (R.bind (forGo _ _ ρ1 s1) _) = _
  rw [e2]
  exact e3
/-- a row of whole numbers, of at most so many -/
def AI (n : Nat) (ds : List PyData) : Prop := ∃ l : List Int, ds = l.map PyData.int ∧ l.length ≤ n
theorem AI.push {n : Nat} {ds : List PyData} {i : Int} (h : AI n ds) : AI (n + 1) (ds ++ [.int i]) := by
  obtain ⟨l, rfl, hl⟩ := h
  exact ⟨l ++ [i], by simp, by simpa using hl⟩
theorem AI.mono {n m : Nat} {ds : List PyData} (h : AI n ds) (hm : n ≤ m) : AI m ds := by
  obtain ⟨l, rfl, hl⟩ := h
  exact ⟨l, rfl, Nat.le_trans hl hm⟩
theorem AI.len {n : Nat} {ds : List PyData} (h : AI n ds) : ds.length ≤ n := by
  obtain ⟨l, rfl, hl⟩ := h
  simpa using hl
theorem sat_rev {S : Type} {xs : List PyData} {Q : PyData → Prop} (h : Q (.list xs.reverse)) : Sat (lft (S := S) (op1D .rev (.list xs))) Q := sat_lft rfl h
theorem pow18 : binD .Pow (.int 10) (.int 18) = .ok (.int 1000000000000000000) := by kernel_rfl
def D2_3_0 : St Unit := (.ite (.cmp .Gt (.v 4) (.int 0)) (.cons (.app 1 false (.bin .Mod (.blt .int_ (.cons (.v 4) .nil)) (.int 997))) (.cons (.set 4 false false (.bin .FloorDiv (.v 4) (.int 997))) .nil)) .nil)
def D2_3 : St Unit := (.for_ [1] (.nm 5) (.range1 (.int 60)) (.cons D2_3_0 .nil))
theorem d23 {n : Nat} (hn : n ≤ 100000) {ds : List PyData} (h : AI n ds) {s c o5 : Option PyData} {v : Int} (hv : 0 ≤ v) {F : Fl → Prop} (hF : ∀ ds v o5, AI (n + 60) ds → F (.nx [none, some (.list ds), s, c, some (.int v), o5])) : Sat (run D2_3 [none, some (.list ds), s, c, some (.int v), o5]) F := by
  unfold D2_3
  refine sat_for (fun _ k ρ => ∃ ds v o5, ρ = [none, some (.list ds), s, c, some (.int v), o5] ∧ AI (n + k) ds ∧ 0 ≤ v) ?_
  clean_wf
  refine ⟨⟨_, _, _, rfl, h, hv⟩, ?_, ?_⟩
  · rintro k hk ρ ⟨ds, v, o5, rfl, h, hv⟩
    rw [rangeD_len] at hk
    have hk : k < 60 := hk
    have hl := h.len
    clean_wf; unfold D2_3_0; clean_wf
    refine if_dec (fun z => ?_) (fun z => ?_)
    · clean_wf
      refine ⟨by show _ < 2 ^ 24; omega, ?_⟩
      clean_wf
      exact ⟨_, _, _, rfl, h.push, by omega⟩
    · clean_wf
      exact ⟨_, _, _, rfl, h.mono (by omega), hv⟩
  · rintro ρ ⟨ds, v, o5, rfl, h, hv⟩
    exact hF _ _ _ h
/-- the draws of the smaller laws -/
theorem draws1_ok (rounds : Int) (hr : 0 ≤ rounds ∧ rounds ≤ 100000) (ns : List Int) (hns : ns.length ≤ 63) : ∃ st : List Int, drawsR 6 3
      (.cons (.set 1 true false (.lst .nil)) (.cons (.set 2 false false (.int 11)) .nil))
      (.cons (.set 4 false false (.blt .abs (.cons (.blt .int_ (.cons (.v 3) .nil)) .nil))) (.cons (.set 2 false false (.bin .Mod (.blt .int_ (.cons (.bin .Add (.bin .Add (.bin .Mult (.v 2) (.int 48271)) (.v 4)) (.int 1)) .nil)) (.int 2147483647))) (.cons (.ite (.cmp .Lt (.v 4) (.bin .Pow (.int 10) (.int 18))) (.cons (.app 1 false (.bin .Mod (.blt .int_ (.cons (.v 4) .nil)) (.int 997))) (.cons (.app 1 false (.bin .Mod (.blt .int_ (.cons (.v 2) .nil)) (.int 65521))) (.cons (.set 4 false false (.int 0)) .nil))) .nil) (.cons (.for_ [1] (.nm 5) (.range1 (.int 60)) (.cons (.ite (.cmp .Gt (.v 4) (.int 0)) (.cons (.app 1 false (.bin .Mod (.blt .int_ (.cons (.v 4) .nil)) (.int 997))) (.cons (.set 4 false false (.bin .FloorDiv (.v 4) (.int 997))) .nil)) .nil) .nil)) .nil))))
      (.cons (.for_ [1] (.nm 5) (.range1 (.int rounds)) (.cons (.set 2 false false (.bin .Mod (.blt .int_ (.cons (.bin .Add (.bin .Mult (.v 2) (.int 48271)) (.int 69621)) .nil)) (.int 2147483647))) (.cons (.app 1 false (.bin .FloorDiv (.v 2) (.int 5))) .nil))) (.cons (.ret (.op1 .rev (.v 1))) .nil)) ns = .ok (.ret (.list (st.map PyData.int)), ()) ∧ st.length ≤ sizeLine := by
  refine drawsR_ok ?_
  show Sat (runs _ [none, none, none, none, none, none]) _
  clean_wf
  refine forGo_ok _ (fun k ρ => ∃ ds s o3 o4 o5, ρ = [none, some (.list ds), some (.int s), o3, o4, o5] ∧ AI (k * 62) ds ∧ 0 ≤ s ∧ s < 2147483647) ⟨_, _, _, _, _, rfl, ⟨[], rfl, Nat.zero_le _⟩, by decide, by decide⟩ ?_ ?_
  · rintro k hk ρ ⟨ds, s, o3, o4, o5, rfl, h, h1, h2⟩
    rw [List.length_map] at hk
    rw [List.getElem_map]
    have hl := h.len
    refine sat_bnd ?_
    clean_wf
    have hab : 0 ≤ (if ns[k] < 0 then -ns[k] else ns[k]) := by omega
    refine sat_lft pow18 ?_
    clean_wf
    refine if_dec (fun z => ?_) (fun z => ?_)
    · clean_wf
      refine ⟨by show _ < 2 ^ 24; omega, ?_⟩
      clean_wf
      refine ⟨by show _ < 2 ^ 24; rw [List.length_append]; show _ + 1 < _; omega, ?_⟩
      clean_wf
      refine d23 (n := k * 62 + 2) (by omega) h.push.push (by decide) fun ds v o5 h => ?_
      clean_wf
      exact ⟨_, _, _, _, _, rfl, h.mono (by omega), by omega, by omega⟩
    · clean_wf
      refine d23 (n := k * 62) (by omega) h hab fun ds v o5 h => ?_
      clean_wf
      exact ⟨_, _, _, _, _, rfl, h.mono (by omega), by omega, by omega⟩
  · rintro ρ ⟨ds, s, o3, o4, o5, rfl, h, h1, h2⟩
    rw [List.length_map] at h
    have h := h.mono (show ns.length * 62 ≤ 4000 by omega)
    refine ⟨_, rfl, ?_⟩
    clean_wf
    refine sat_for (fun _ k ρ => ∃ ds s o5, ρ = [none, some (.list ds), some (.int s), o3, o4, o5] ∧ AI (4000 + k) ds ∧ 0 ≤ s ∧ s < 2147483647) ?_
    clean_wf
    refine ⟨by show _ ≤ (2 ^ 24 : Int); omega, by omega, ⟨_, _, _, rfl, h, h1, h2⟩, ?_, ?_⟩
    · rintro k hk ρ ⟨ds, s, o5, rfl, h, h1, h2⟩
      rw [rangeD_len] at hk
      have hk : k < 100000 := by omega
      have hl := h.len
      clean_wf
      refine ⟨by show _ < 2 ^ 24; omega, ?_⟩
      clean_wf
      exact ⟨_, _, _, rfl, h.push, by omega, by omega⟩
    · rintro ρ ⟨ds, s, o5, rfl, h, h1, h2⟩
      rw [rangeD_len] at h
      have h : AI 104000 ds := h.mono (by omega)
      obtain ⟨l, rfl, hl⟩ := h
      clean_wf
      refine sat_rev ?_
      clean_wf
      exact ⟨l.reverse, by rw [List.map_reverse], by rw [List.length_reverse]; show _ ≤ 2 ^ 24; omega⟩
end Mir

set_option Elab.async false
set_option linter.all false
set_option maxRecDepth 100000
set_option maxHeartbeats 2000000
/-! Plain part E: the end of a law whose calls may let exceptions out. -/
namespace Mir
open PySem PySem.Spec PyProof.Rows L2
theorem walkW {lw : PySem.W.OpenLaw} {most k : Nat} {q : Program} {loose : List Str}
    {XP : (Str → Option Value) → Heap → Prop} {YP : World → Heap → Prop} {dr : DefRec}
    (CXw : World → CXT) {nm : Str} (h1 : lw.most = some most) (h2 : most ≤ sizeLine)
    (h3 : dr.params.defaults = []) (room : Room k callerA)
    (law : ∀ (w : World) (mg : Str → Option Value) (f : Addr) (hp : Heap), YP w hp → hp.Ns mainGlobals mg →
      mg dr.name = some (.ref f) → ∃ (K : PySem.W.Frag) (fd : FuncData) (sp : Sp), K.In hp ∧
        (∀ (s : Shared) (u : Value), BindsTo s fd ⟨[u], []⟩ [(nm, u)]) ∧
        (∀ (H : Hp) (a : Addr) (ns : List Int), ns.length ≤ most → SqL K H a (ns.map V.int) →
          sp [.ref a] H (fun v _ => v = .bl true) fun _ _ _ => False) ∧
        ∀ base : Heap, K.In base → base.Ns mainGlobals mg → FnOk lw.prog w K mg base (CXw w) k f fd [nm] sp)
    (noX : ∀ w (H : Hp) (s : Shared) (e : Value) (s' : Shared), CXw w [] H s (fun _ _ _ => False) e s' → False) :
    PySem.W.WalkO q loose XP YP lw.row.toRowW dr [] (fun f vs => PySem.call f vs) := by
  refine Att.attach_call h1 h3 ?_
  intro w _ s1 mg mb f o pm cd doc a vs ns G Y ho hd hcd hmg hobj hints hlen hg
  obtain ⟨K, fd, sp, kx, bd, use, fok⟩ := law w mg f _ Y G.T.g hmg
  refine law_call kx G.T.g G.T.b G.T.builtins G.T.nolimit hg hobj hints ?_ room fok bd ?_ ?_
  · exact Nat.le_trans hlen h2
  · exact fun H _ hS => use H a ns hlen hS
  · exact fun H e s' => noX w H s1 e s'
end Mir

set_option Elab.async false
set_option linter.all false
set_option maxRecDepth 100000
set_option maxHeartbeats 1000000
/-! plain rules: whiles, starred displays, dict comprehensions, sorted(set), nested targets -/
namespace Mir
open PySem
section
variable {S : Type} {X : Str → Prop} {ρ : Env} {F : Fl → Prop} {Q : PyData → Prop}
theorem whileGo_ok {c : Env → M S PyData} {f : Env → M S Fl} (I : Nat → Env → Prop) (h : ∀ μ ρ, I μ ρ → SatE X (c ρ) fun t => if truthy t = true then SatE X (f ρ) (Rnd (fun ρ' => ∃ μ', μ' < μ ∧ I μ' ρ') F) else F (.nx ρ)) :
    ∀ (n μ : Nat) (ρ : Env), μ < n → I μ ρ → SatE X (whileGo c f n ρ) F
  | 0, _, _, hl, _ => absurd hl (Nat.not_lt_zero _)
  | n + 1, μ, ρ, hl, i => by
    unfold whileGo
    refine sat_bnd ((h μ ρ i).imp fun t g => ?_)
    by_cases ht : truthy t = true
    · rw [if_pos ht] at g ⊢
      refine sat_bnd (g.imp fun fl q => ?_)
      cases fl with
      | nx ρ' => obtain ⟨μ', h1, h2⟩ := q; exact whileGo_ok I h n μ' ρ' (by omega) h2
      | cnt ρ' => obtain ⟨μ', h1, h2⟩ := q; exact whileGo_ok I h n μ' ρ' (by omega) h2
      | brk ρ' => exact sat_ret q
      | ret d => exact sat_ret q
    · rw [if_neg ht] at g ⊢
      exact sat_ret g
theorem sat_while {li : List Nat} {n : Nat} {c : E S} {body : Sts S} (I : Nat → Env → Prop) (μ : Nat) (hl : μ < n) (h0 : I μ ρ) (h : ∀ μ ρ, I μ ρ → SatE X (ev c ρ) fun t => if truthy t = true then SatE X (runs body ρ) (Rnd (fun ρ' => ∃ μ', μ' < μ ∧ I μ' ρ') F) else F (.nx ρ)) :
    SatE X (run (.while_ li n c body) ρ) F := whileGo_ok I h n μ ρ hl h0
theorem sat_dispT {ss : List Bool} {es : Es S} (h : SatE X (evd ss es ρ) fun xs => xs.length ≤ sizeLine ∧ Q (.tuple xs)) : SatE X (ev (.disp true ss es) ρ) Q :=
  sat_bnd (h.imp fun xs h => by rw [if_pos h.1]; exact sat_ret h.2)
theorem sat_dispL {ss : List Bool} {es : Es S} (h : SatE X (evd ss es ρ) fun xs => xs.length ≤ sizeLine ∧ Q (.list xs)) : SatE X (ev (.disp false ss es) ρ) Q :=
  sat_bnd (h.imp fun xs h => by rw [if_pos h.1]; exact sat_ret h.2)
theorem sat_dnil {ss : List Bool} {Q : List PyData → Prop} (h : Q []) : SatE X (evd (S := S) ss .nil ρ) Q := sat_ret h
theorem sat_dcons {ss : List Bool} {a : E S} {r : Es S} {Q : List PyData → Prop} (h : SatE X (ev a ρ) fun x => SatE X (evd ss r ρ) fun xs => Q (x :: xs)) : SatE X (evd (false :: ss) (.cons a r) ρ) Q :=
  sat_bnd (h.imp fun x h => sat_bnd (sat_lft rfl (sat_bnd (h.imp fun xs h => sat_ret h))))
theorem sat_dstar {ss : List Bool} {a : E S} {r : Es S} {Q : List PyData → Prop} (h : SatE X (ev a ρ) fun x => SatE X (lft (S := S) (itemsR x)) fun ys => SatE X (evd ss r ρ) fun xs => Q (ys ++ xs)) : SatE X (evd (true :: ss) (.cons a r) ρ) Q :=
  sat_bnd (h.imp fun x h => sat_bnd (h.imp fun ys h => sat_bnd (h.imp fun xs h => sat_ret h)))
theorem sat_enumZip {a b : E S} {Q : List PyData → Prop} (h : SatE X (ev a ρ) fun x => SatE X (ev b ρ) fun y => SatE X (lft (S := S) (enumZipD x y)) Q) : SatE X (evIt (.enumZip a b) ρ) Q :=
  sat_bnd (h.imp fun x h => sat_bnd h)
theorem lcGo_map {α : Type} {f : PyData → M S (Option PyData)} {Fm : α → PyData} {g : α → Option PyData} : ∀ l : List α, (∀ a ∈ l, SatE X (f (Fm a)) (· = g a)) → SatE X (lcGo f (l.map Fm)) (· = l.filterMap g)
  | [], _ => sat_ret rfl
  | a :: l, h => sat_bnd ((h a (.head _)).imp fun o e => sat_bnd ((lcGo_map l fun y hy => h y (.tail _ hy)).imp fun r e2 => sat_ret (by
      subst e; subst e2
      cases q : g a with
      | none => rw [List.filterMap_cons_none q]
      | some y => rw [List.filterMap_cons_some q])))
/-- a comprehension over what is told of a list -/
theorem sat_lcM {α : Type} {elt : E S} {tg : Tg} {it : It S} {c : E S} {own : List (Str × Nat)} (l : List α) (Fm : α → PyData) (g : α → Option PyData)
    (h : SatE X (evIt it ρ) fun xs => xs = l.map Fm ∧ (∀ a ∈ l, LcF S elt tg c (wipeE ρ (own.map (·.2))) (Fm a) (· = g a)) ∧ Q (.list (l.filterMap g))) : SatE X (ev (.lc elt tg it c own) ρ) Q :=
  sat_bnd (h.imp fun xs h => sat_bnd (by
    rw [h.1]
    exact (lcGo_map l fun x hx => lcf_ok (h.2.1 x hx)).imp fun ys e => sat_ret (e ▸ h.2.2)))
/-- what is asked of each element of a comprehension that makes a dict of numbers -/
def DcF (S : Type) (ke ve : E S) (tg : Tg) (ρ : Env) (i : Int) : Prop := Sat (lft (S := S) (asg tg (.int i) ρ)) fun ρ' => Sat (ev ke ρ') fun k => k = .int i ∧ Sat (ev ve ρ') fun _ => True
theorem any_keys : ∀ (kvs : List (PyData × PyData)) (ks : List Int) (i : Int), kvs.map (·.1) = ks.map PyData.int → (kvs.any fun p => p.1.eqv (.int i)) = ks.any fun k => decide (k = i)
  | [], [], i, _ => rfl
  | (k, y) :: kvs, j :: ks, i, h => by
    rw [List.map_cons, List.map_cons, List.cons.injEq] at h
    obtain ⟨h1, h2⟩ := h
    subst h1
    rw [List.any_cons, List.any_cons, any_keys kvs ks i h2, eqv_int]
  | [], _ :: _, _, h => nomatch h
  | _ :: _, [], _, h => nomatch h
theorem map_keys {x y : PyData} : ∀ kvs : List (PyData × PyData), (kvs.map fun p => if p.1.eqv x = true then (p.1, y) else p).map (·.1) = kvs.map (·.1)
  | [] => rfl
  | p :: kvs => by
    rw [List.map_cons, List.map_cons, List.map_cons, map_keys kvs]
    congr 1
    split <;> rfl
theorem dcGo_keys {ke ve : E S} {tg : Tg} {c : E S} {ρ : Env} (hc : c = .bl true) : ∀ (l : List Int) (kvs : List (PyData × PyData)) (ks : List Int), (∀ i ∈ l, DcF S ke ve tg ρ i) → kvs.length + l.length < sizeLine → kvs.map (·.1) = ks.map PyData.int → ks.Nodup →
    SatE X (dcGo (fun x => nx (bnd (lft (asg tg x ρ)) fun ρ' => bnd (ev c ρ') fun t => if truthy t = true then bnd (ev ke ρ') fun k => bnd (ev ve ρ') fun y => ret (some (k, y)) else ret none)) (l.map PyData.int) kvs)
      fun r => ∃ ks' : List Int, r.map (·.1) = ks'.map PyData.int ∧ ks'.Nodup ∧ (∀ i, i ∈ ks' ↔ i ∈ ks ∨ i ∈ l) ∧ r.length ≤ kvs.length + l.length
  | [], kvs, ks, _, _, hk, hn => sat_ret ⟨ks, hk, hn, fun i => by simp, by simp⟩
  | i :: l, kvs, ks, h, hl, hk, hn => by
    rw [List.map_cons]
    unfold dcGo
    refine sat_bnd ?_
    refine (sat_nx (sat_bnd ((h i (.head _)).imp fun ρ' g => sat_bnd (?_ : Sat _ fun t => Sat _ fun o => ∃ y, o = some (PyData.int i, y))))).imp fun o e => ?_
    · subst hc
      exact sat_ret (by
        show Sat (if truthy (.bool true) = true then bnd (ev ke ρ') fun k => bnd (ev ve ρ') fun y => ret (some (k, y)) else ret none) _
        rw [if_pos (show truthy (.bool true) = true from rfl)]
        exact sat_bnd (g.imp fun k hkk => sat_bnd (hkk.2.imp fun y _ => sat_ret ⟨y, by rw [hkk.1]⟩)))
    · obtain ⟨y, rfl⟩ := e
      simp only [List.length_cons] at hl
      have hlt : kvs.length < sizeLine := by omega
      show SatE X (if flatK (.int i) = true ∧ kvs.length < sizeLine then dcGo _ (l.map PyData.int) (putD kvs (.int i) y) else lft .bad) _
      rw [if_pos ⟨rfl, hlt⟩]
      by_cases hm : i ∈ ks
      · have ha : (kvs.any fun p => p.1.eqv (.int i)) = true := by rw [any_keys kvs ks i hk]; simpa using hm
        have hp : putD kvs (.int i) y = kvs.map fun p => if p.1.eqv (.int i) = true then (p.1, y) else p := if_pos ha
        rw [hp]
        refine (dcGo_keys hc l _ ks (fun j hj => h j (.tail _ hj)) (by simp; omega) (by rw [map_keys]; exact hk) hn).imp fun r ⟨ks', h1, h2, h3, h4⟩ => ⟨ks', h1, h2, fun j => ?_, by simp at h4 ⊢; omega⟩
        rw [h3]
        constructor
        · rintro (q | q)
          · exact .inl q
          · exact .inr (.tail _ q)
        · rintro (q | q)
          · exact .inl q
          · cases q with
            | head => exact .inl hm
            | tail _ q => exact .inr q
      · have ha : ¬ (kvs.any fun p => p.1.eqv (.int i)) = true := by rw [any_keys kvs ks i hk]; simpa using hm
        have hp : putD kvs (.int i) y = kvs ++ [(.int i, y)] := if_neg ha
        rw [hp]
        refine (dcGo_keys hc l _ (ks ++ [i]) (fun j hj => h j (.tail _ hj)) (by simp; omega) (by simp [hk]) ?_).imp fun r ⟨ks', h1, h2, h3, h4⟩ => ⟨ks', h1, h2, fun j => ?_, by simp at h4 ⊢; omega⟩
        · rw [List.nodup_append]
          exact ⟨hn, by simp, fun a ha b hb e => hm (by rw [List.mem_singleton.mp hb] at e; rw [← e]; exact ha)⟩
        · rw [h3, List.mem_append, List.mem_singleton, List.mem_cons]
          constructor
          · rintro ((q | q) | q)
            · exact .inl q
            · exact .inr (.inl q)
            · exact .inr (.inr q)
          · rintro (q | q | q)
            · exact .inl (.inl q)
            · exact .inl (.inr q)
            · exact .inr q
theorem sortedD_dict {kvs : List (PyData × PyData)} {ks : List Int} {l : List Int} (h1 : kvs.map (·.1) = ks.map PyData.int) (h2 : ks.Nodup) (h3 : ∀ i, i ∈ ks ↔ i ∈ l) (h4 : 0 < l.length) (h5 : ks.length < 4000) : sortedD (.dict kvs) = .ok (.list ((sortU l).map PyData.int)) := by
  have e : allInts (kvs.map (·.1)) = some ks := by rw [h1, allInts_map]
  have hpos : 0 < ks.length := by
    cases l with
    | nil => simp at h4
    | cons a l => exact List.length_pos_of_mem ((h3 a).mpr (.head _))
  have hs : (ks.mergeSort (fun i j => decide (i ≤ j))).Pairwise (· < ·) := by
    have := List.pairwise_mergeSort (le := fun i j : Int => decide (i ≤ j)) (fun a b c h1 h2 => by simp only [decide_eq_true_eq] at *; omega) (fun a b => by simp only [Bool.or_eq_true, decide_eq_true_eq]; omega) ks
    have nd : (ks.mergeSort (fun i j => decide (i ≤ j))).Nodup := (List.mergeSort_perm ks _).nodup_iff.mpr h2
    exact L2.lt_of_le_nodup _ (this.imp fun h => by simpa using h) nd
  have q : sortU l = ks.mergeSort (fun i j => decide (i ≤ j)) := sortU_uniq hs fun k => by rw [(List.mergeSort_perm ks _).mem_iff, h3]
  show (match allInts (kvs.map (·.1)) with
    | some ns => if 0 < ns.length ∧ ns.length < 4000 then R.ok (PyData.list ((ns.mergeSort (fun i j => decide (i ≤ j))).map PyData.int)) else .bad
    | none => .bad) = _
  rw [e]
  show (if 0 < ks.length ∧ ks.length < 4000 then R.ok (PyData.list ((ks.mergeSort (fun i j => decide (i ≤ j))).map PyData.int)) else .bad) = _
  rw [if_pos ⟨hpos, h5⟩, q]
/-- sorted({i: .. for i in l}) -/
theorem sat_sortedDc {ke ve : E S} {tg : Tg} {it : It S} {own : List (Str × Nat)} (l : List Int) (h0 : 0 < l.length) (h1 : l.length < 4000)
    (h : SatE X (evIt it ρ) fun xs => xs = l.map PyData.int ∧ (∀ i ∈ l, DcF S ke ve tg (wipeE ρ (own.map (·.2))) i) ∧ Q (.list ((sortU l).map PyData.int))) : SatE X (ev (.dc ke ve tg it (.bl true) own) ρ) fun x => SatE X (evs (S := S) .nil ρ) fun xs => SatE X (lft (S := S) (bltD .sorted (x :: xs))) Q := by
  refine sat_bnd (h.imp fun xs h => ?_)
  rw [h.1]
  have hz : sizeLine = 16777216 := sizeLine_eq
  refine sat_bnd ((dcGo_keys rfl l [] [] h.2.1 (by simp; omega) rfl List.nodup_nil).imp fun r ⟨ks, k1, k2, k3, k4⟩ => sat_ret (sat_nil ?_))
  have hlen : ks.length = r.length := by
    have := congrArg List.length k1
    simpa using this.symm
  simp at k4
  exact sat_lft (sortedD_dict k1 k2 (fun i => by simpa using k3 i) h0 (by omega)) h.2.2
theorem dcf_i {ke ve : E S} {tg : Tg} {i : Int} (h : Sat (lft (S := S) (asg tg (.int i) ρ)) fun ρ' => Sat (ev ke ρ') fun k => k = .int i ∧ Sat (ev ve ρ') fun _ => True) : DcF S ke ve tg ρ i := h
theorem sat_intB {b : Bool} (h : Q (.int (if b then 1 else 0))) : SatE X (lft (S := S) (bltD .int_ [.bool b])) Q := sat_lft rfl h
theorem sat_sortSet {ns : List Int} (hl : ns.length ≤ 4000) (h : Q (.list ((sortU ns).map PyData.int))) : SatE X (lft (S := S) (op1D .sortSet (.list (ns.map PyData.int)))) Q := sat_lft (by
  show (match allInts (ns.map PyData.int) with
    | some ns => if ns.length ≤ 4000 then R.ok (PyData.list ((sortU ns).map .int)) else .bad
    | none => .bad) = _
  rw [allInts_map]
  show (if ns.length ≤ 4000 then R.ok (PyData.list ((sortU ns).map .int)) else .bad) = _
  rw [if_pos hl]) h
theorem sat_sortSetT {ns : List Int} (hl : ns.length ≤ 4000) (h : Q (.list ((sortU ns).map PyData.int))) : SatE X (lft (S := S) (op1D .sortSet (.tuple (ns.map PyData.int)))) Q := sat_lft (by
  show (match allInts (ns.map PyData.int) with
    | some ns => if ns.length ≤ 4000 then R.ok (PyData.list ((sortU ns).map .int)) else .bad
    | none => .bad) = _
  rw [allInts_map]
  show (if ns.length ≤ 4000 then R.ok (PyData.list ((sortU ns).map .int)) else .bad) = _
  rw [if_pos hl]) h
end
end Mir

set_option Elab.async false
set_option linter.all false
set_option maxRecDepth 100000
set_option maxHeartbeats 4000000
namespace K04
open PySem PySem.Spec PyProof.Rows L2 Mir
@[irreducible] def top (i : Nat) : Stmt := PySem.Challenge.pw_signward_k04_whole_long_profiles.main.body.getD i (.Pass ⟨0, 0, 0, 0⟩)
structure Facts (K : PySem.W.Frag) (mg : Str → Option Value) : Prop where
  fr : ∀ x ∈ bltNames, mg (Str.ofString x) = none
  d_law_draws : DefAt K mg "_law_draws" (top 44)
  d_law_take : DefAt K mg "_law_take" (top 45)
  d_law_profile : DefAt K mg "_law_profile" (top 51)
  d_check : DefAt K mg "check" (top 8)
  d_are_ascending : DefAt K mg "are_ascending" (top 7)
  d_is_integer : DefAt K mg "is_integer" (top 5)
  d_is_height : DefAt K mg "is_height" (top 16)
  d_is_profile : DefAt K mg "is_profile" (top 17)
  d_check_profile : DefAt K mg "check_profile" (top 18)
  d_ups_by : DefAt K mg "ups_by" (top 19)
  d_ups_downs : DefAt K mg "ups_downs" (top 20)
  d_is_within : DefAt K mg "is_within" (top 6)
  d_check_speeds : DefAt K mg "check_speeds" (top 24)
  d_shared : DefAt K mg "shared" (top 10)
  d_ratio : DefAt K mg "ratio" (top 11)
  d_time_by : DefAt K mg "time_by" (top 25)
  d_time_for : DefAt K mg "time_for" (top 26)
  d_steepest : DefAt K mg "steepest" (top 23)
  d_highest : DefAt K mg "highest" (top 35)
  d_levels_of : DefAt K mg "levels_of" (top 33)
  d_summits : DefAt K mg "summits" (top 34)
  d_law_ratio : DefAt K mg "_law_ratio" (top 48)
  d_height_by : DefAt K mg "height_by" (top 21)
  d_height_at : DefAt K mg "height_at" (top 22)
  d_law_is_at_most : DefAt K mg "_law_is_at_most" (top 50)
  d_law_are_tops_due : DefAt K mg "_law_are_tops_due" (top 53)
  d_law_pick : DefAt K mg "_law_pick" (top 46)
  d_law_steps : DefAt K mg "_law_steps" (top 52)
  d_law_same : DefAt K mg "_law_same" (top 47)
  d_time_back : DefAt K mg "time_back" (top 27)
  d_thinned_profile : DefAt K mg "thinned_profile" (top 28)
  d_check_there : DefAt K mg "check_there" (top 9)
  d_check_indexes : DefAt K mg "check_indexes" (top 29)
  d_sees_by : DefAt K mg "sees_by" (top 30)
  d_seen_points : DefAt K mg "seen_points" (top 32)
  d_cut_profile : DefAt K mg "cut_profile" (top 36)
  d_are_told_pairs : DefAt K mg "are_told_pairs" (top 39)
  d_need_profile : DefAt K mg "need_profile" (top 40)
  d_takes_time : DefAt K mg "takes_time" (top 41)
  d_law_plus : DefAt K mg "_law_plus" (top 49)
  d_takes_thinned : DefAt K mg "takes_thinned" (top 42)
  d_sees : DefAt K mg "sees" (top 31)
  d_joined_profiles : DefAt K mg "joined_profiles" (top 37)
  d_law : DefAt K mg "law" (top 54)
  g_MOST_POINTS : GlobOk mg "MOST_POINTS" (.int 100)
  g_MOST_SPEED : GlobOk mg "MOST_SPEED" (.int 1000)
  g_MOST_THINNED : GlobOk mg "MOST_THINNED" (.int 100000)
  x_NoAnswer : RK K mg "NoAnswer"
  x_NotRight : RK K mg "NotRight"
  x_NotThere : RK K mg "NotThere"
section
variable {P : Program} {w : World} {K : PySem.W.Frag} {mg : Str → Option Value} {base : Heap}
theorem ok_law_take (c : Facts K mg) : FnGD P w K mg base 1 "_law_take" m_take 1 := by
  obtain ⟨f, fd, F, hx⟩ := c.d_law_take
  exact take_ok F ⟨by kernel_rfl, by kernel_rfl, by kernel_rfl, by decide +kernel, by kernel_rfl, by decide +kernel, by decide +kernel⟩ c.fr hx (FunD.bindsN F fun _ _ _ _ _ _ us hl => match us, hl with | [_, _], _ => by kernel_rfl) (by decide +kernel) (by decide +kernel) (by decide +kernel) (by decide +kernel) (by decide +kernel)
abbrev m_law_take := m_take
def N_draws : List Str := [("script" : Str), ("draws" : Str), ("seed" : Str), ("cell" : Str), ("number" : Str), ("k" : Str)]
def b_draws1 : Sts Unit :=
      (.cons (.set 1 true false (.lst .nil))
      (.cons (.set 2 false false (.int 11))
      .nil))
def b_draws2 : Sts Unit :=
      (.cons (.set 4 false false (.blt .abs (.cons (.blt .int_ (.cons (.v 3) .nil)) .nil)))
      (.cons (.set 2 false false (.bin .Mod (.blt .int_ (.cons (.bin .Add (.bin .Add (.bin .Mult (.v 2) (.int 48271)) (.v 4)) (.int 1)) .nil)) (.int 2147483647)))
      (.cons (.ite (.cmp .Lt (.v 4) (.bin .Pow (.int 10) (.int 18)))
      (.cons (.app 1 false (.bin .Mod (.blt .int_ (.cons (.v 4) .nil)) (.int 997)))
      (.cons (.app 1 false (.bin .Mod (.blt .int_ (.cons (.v 2) .nil)) (.int 65521)))
      (.cons (.set 4 false false (.int 0))
      .nil)))
      .nil)
      (.cons (.for_ [1] (.nm 5) (.range1 (.int 60))
      (.cons (.ite (.cmp .Gt (.v 4) (.int 0))
      (.cons (.app 1 false (.bin .Mod (.blt .int_ (.cons (.v 4) .nil)) (.int 997)))
      (.cons (.set 4 false false (.bin .FloorDiv (.v 4) (.int 997)))
      .nil))
      .nil)
      .nil))
      .nil))))
def b_draws3 : Sts Unit :=
      (.cons (.for_ [1] (.nm 5) (.range1 (.int 1600))
      (.cons (.set 2 false false (.bin .Mod (.blt .int_ (.cons (.bin .Add (.bin .Mult (.v 2) (.int 48271)) (.int 69621)) .nil)) (.int 2147483647)))
      (.cons (.app 1 false (.bin .FloorDiv (.v 2) (.int 5)))
      .nil)))
      (.cons (.ret (.op1 .rev (.v 1)))
      .nil))
def l1_draws : List Nat := [1]
def li_draws : List Nat := [1]
def cell_draws : Nat := 3
def N_law_profile : List Str := [("draws" : Str), ("most" : Str), ("far" : Str), ("high" : Str), ("found" : Str), ("m" : Str), ("k" : Str), ("height" : Str)]
def b_law_profile : Sts (List Int) :=
      (.cons (.par [4, 5] [true, false] false (.cons (.lst .nil) (.cons (.int 0) .nil)))
      (.cons (.for_ [4] (.nm 6) (.range1 (.bin .Add (.int 2) (.callS ("_law_take" : Str) m_law_take (.cons (.v 1) .nil))))
      (.cons (.set 7 false false (.bin .Sub (.callS ("_law_take" : Str) m_law_take (.cons (.v 3) .nil)) (.bin .FloorDiv (.v 3) (.int 3))))
      (.cons (.ite (.and_ (.cmp .NotEq (.v 4) (.lst .nil)) (.one (.cmp .Eq (.callS ("_law_take" : Str) m_law_take (.cons (.int 4) .nil)) (.int 0))))
      (.cons (.set 7 false true (.sub (.sub (.v 4) (.bin .Sub (.blt .len (.cons (.v 4) .nil)) (.int 1))) (.int 1)))
      .nil)
      .nil)
      (.cons (.app 4 false (.tup (.cons (.v 5) (.cons (.v 7) .nil))))
      (.cons (.set 5 false false (.bin .Add (.bin .Add (.v 5) (.int 1)) (.callS ("_law_take" : Str) m_law_take (.cons (.v 2) .nil))))
      .nil)))))
      (.cons (.ret (.v 4))
      .nil)))
def m_law_profile : List PyData → M (List Int) PyData := defD N_law_profile.length b_law_profile
theorem sc_law_profile : FnScope N_law_profile [("draws" : Str), ("most" : Str), ("far" : Str), ("high" : Str)] (defScope (top 51)) := ⟨by kernel_rfl, by kernel_rfl, by kernel_rfl, by decide +kernel, by kernel_rfl, by decide +kernel, by decide +kernel⟩
theorem ok_law_profile (c : Facts K mg) : FnGD P w K mg base 2 "_law_profile" m_law_profile 3 :=
  defD_okS (N := N_law_profile) (ps := [("draws" : Str), ("most" : Str), ("far" : Str), ("high" : Str)]) (body := b_law_profile) (j := 1) c.d_law_profile sc_law_profile c.fr (fun f fd F => FunD.bindsN F fun _ _ _ _ _ _ us hl => match us, hl with | [_, _, _, _], _ => by kernel_rfl) rfl (by decide +kernel)
      fun A hr a => ⟨⟨trivial, ⟨trivial, trivial⟩⟩, ⟨⟨⟨trivial, ⟨(ok_law_take c).s hr (by decide) 0 a, ⟨trivial, trivial⟩⟩⟩, ⟨⟨⟨(ok_law_take c).s hr (by decide) 0 a, ⟨trivial, trivial⟩⟩, ⟨trivial, trivial⟩⟩, ⟨⟨⟨⟨trivial, trivial⟩, ⟨⟨(ok_law_take c).s hr (by decide) 0 a, ⟨trivial, trivial⟩⟩, trivial⟩⟩, ⟨⟨⟨trivial, ⟨⟨trivial, trivial⟩, trivial⟩⟩, trivial⟩, trivial⟩, trivial⟩, ⟨⟨trivial, ⟨trivial, trivial⟩⟩, ⟨⟨⟨trivial, trivial⟩, ⟨(ok_law_take c).s hr (by decide) 0 a, ⟨trivial, trivial⟩⟩⟩, trivial⟩⟩⟩⟩⟩, ⟨trivial, trivial⟩⟩⟩
def N_check : List Str := [("is_right" : Str)]
def b_check : Sts Unit :=
      (.cons (.ite (.not_ (.v 0))
      (.cons (.raise_ ("NotRight" : Str))
      .nil)
      .nil)
      .nil)
def m_check : List PyData → R PyData := defP N_check.length b_check
theorem sc_check : FnScope N_check [("is_right" : Str)] (defScope (top 8)) := ⟨by kernel_rfl, by kernel_rfl, by kernel_rfl, by decide +kernel, by kernel_rfl, by decide +kernel, by decide +kernel⟩
theorem ok_check (c : Facts K mg) : FnG P w K mg base 1 "check" m_check 1 :=
  def_okS (N := N_check) (ps := [("is_right" : Str)]) (body := b_check) (j := 0) c.d_check sc_check c.fr (fun f fd F => FunD.bindsN F fun _ _ _ _ _ _ us hl => match us, hl with | [_], _ => by kernel_rfl) (by decide +kernel)
      fun A hr => ⟨⟨trivial, ⟨c.x_NotRight, trivial⟩, trivial⟩, trivial⟩
def N_are_ascending : List Str := [("values" : Str), ("one" : Str), ("other" : Str)]
def b_are_ascending : Sts Unit :=
      (.cons (.ret (.blt .all_ (.cons (.lc (.cmp .Lt (.v 1) (.v 2)) (.tup [1, 2]) (.zip (.v 0) (.slL (.v 0) (.int 1))) (.bl true) [(("one" : Str), 1), (("other" : Str), 2)]) .nil)))
      .nil)
def m_are_ascending : List PyData → R PyData := defP N_are_ascending.length b_are_ascending
theorem sc_are_ascending : FnScope N_are_ascending [("values" : Str)] (defScope (top 7)) := ⟨by kernel_rfl, by kernel_rfl, by kernel_rfl, by decide +kernel, by kernel_rfl, by decide +kernel, by decide +kernel⟩
theorem ok_are_ascending (c : Facts K mg) : FnG P w K mg base 1 "are_ascending" m_are_ascending 1 :=
  def_okS (N := N_are_ascending) (ps := [("values" : Str)]) (body := b_are_ascending) (j := 0) c.d_are_ascending sc_are_ascending c.fr (fun f fd F => FunD.bindsN F fun _ _ _ _ _ _ us hl => match us, hl with | [_], _ => by kernel_rfl) (by decide +kernel)
      fun A hr => ⟨⟨⟨⟨trivial, ⟨trivial, trivial⟩⟩, trivial, ⟨trivial, trivial⟩⟩, trivial⟩, trivial⟩
def N_is_integer : List Str := [("value" : Str)]
def b_is_integer : Sts Unit :=
      (.cons (.ret (.and_ (.isa .int (.v 0)) (.one (.not_ (.isa .bool (.v 0))))))
      .nil)
def m_is_integer : List PyData → R PyData := defP N_is_integer.length b_is_integer
theorem sc_is_integer : FnScope N_is_integer [("value" : Str)] (defScope (top 5)) := ⟨by kernel_rfl, by kernel_rfl, by kernel_rfl, by decide +kernel, by kernel_rfl, by decide +kernel, by decide +kernel⟩
theorem ok_is_integer (c : Facts K mg) : FnG P w K mg base 1 "is_integer" m_is_integer 1 :=
  def_okS (N := N_is_integer) (ps := [("value" : Str)]) (body := b_is_integer) (j := 0) c.d_is_integer sc_is_integer c.fr (fun f fd F => FunD.bindsN F fun _ _ _ _ _ _ us hl => match us, hl with | [_], _ => by kernel_rfl) (by decide +kernel)
      fun A hr => ⟨⟨trivial, trivial⟩, trivial⟩
def N_is_height : List Str := [("value" : Str)]
def b_is_height : Sts Unit :=
      (.cons (.ret (.and_ (.isa .tuple (.v 0)) (.and_ (.cmp .Eq (.blt .len (.cons (.v 0) .nil)) (.int 2)) (.and_ (.call ("is_integer" : Str) m_is_integer (.cons (.sub (.v 0) (.int 0)) .nil)) (.one (.call ("is_integer" : Str) m_is_integer (.cons (.sub (.v 0) (.int 1)) .nil)))))))
      .nil)
def m_is_height : List PyData → R PyData := defP N_is_height.length b_is_height
theorem sc_is_height : FnScope N_is_height [("value" : Str)] (defScope (top 16)) := ⟨by kernel_rfl, by kernel_rfl, by kernel_rfl, by decide +kernel, by kernel_rfl, by decide +kernel, by decide +kernel⟩
theorem ok_is_height (c : Facts K mg) : FnG P w K mg base 2 "is_height" m_is_height 1 :=
  def_okS (N := N_is_height) (ps := [("value" : Str)]) (body := b_is_height) (j := 1) c.d_is_height sc_is_height c.fr (fun f fd F => FunD.bindsN F fun _ _ _ _ _ _ us hl => match us, hl with | [_], _ => by kernel_rfl) (by decide +kernel)
      fun A hr => ⟨⟨trivial, ⟨⟨⟨trivial, trivial⟩, trivial⟩, ⟨⟨(ok_is_integer c).s hr (by decide), ⟨⟨trivial, trivial⟩, trivial⟩⟩, ⟨(ok_is_integer c).s hr (by decide), ⟨⟨trivial, trivial⟩, trivial⟩⟩⟩⟩⟩, trivial⟩
def N_is_profile : List Str := [("value" : Str), ("one" : Str), ("m" : Str), ("_" : Str)]
def b_is_profile : Sts Unit :=
      (.cons (.ite (.or_ (.not_ (.isa .list (.v 0))) (.or_ (.not_ (.chain .LtE .LtE (.int 2) (.blt .len (.cons (.v 0) .nil)) (.glob ("MOST_POINTS" : Str) (.int 100)))) (.one (.not_ (.blt .all_ (.cons (.lc (.call ("is_height" : Str) m_is_height (.cons (.v 1) .nil)) (.nm 1) (.of (.v 0)) (.bl true) [(("one" : Str), 1)]) .nil))))))
      (.cons (.ret (.bl false))
      .nil)
      .nil)
      (.cons (.ret (.and_ (.cmp .Eq (.sub (.sub (.v 0) (.int 0)) (.int 0)) (.int 0)) (.one (.call ("are_ascending" : Str) m_are_ascending (.cons (.lc (.v 2) (.tup [2, 3]) (.of (.v 0)) (.bl true) [(("m" : Str), 2), (("_" : Str), 3)]) .nil)))))
      .nil))
def m_is_profile : List PyData → R PyData := defP N_is_profile.length b_is_profile
theorem sc_is_profile : FnScope N_is_profile [("value" : Str)] (defScope (top 17)) := ⟨by kernel_rfl, by kernel_rfl, by kernel_rfl, by decide +kernel, by kernel_rfl, by decide +kernel, by decide +kernel⟩
theorem ok_is_profile (c : Facts K mg) : FnG P w K mg base 3 "is_profile" m_is_profile 1 :=
  def_okS (N := N_is_profile) (ps := [("value" : Str)]) (body := b_is_profile) (j := 2) c.d_is_profile sc_is_profile c.fr (fun f fd F => FunD.bindsN F fun _ _ _ _ _ _ us hl => match us, hl with | [_], _ => by kernel_rfl) (by decide +kernel)
      fun A hr => ⟨⟨⟨trivial, ⟨⟨trivial, ⟨trivial, trivial⟩, c.g_MOST_POINTS⟩, ⟨⟨trivial, trivial, ⟨(ok_is_height c).s hr (by decide), ⟨trivial, trivial⟩⟩⟩, trivial⟩⟩⟩, ⟨trivial, trivial⟩, trivial⟩, ⟨⟨⟨⟨⟨trivial, trivial⟩, trivial⟩, trivial⟩, ⟨(ok_are_ascending c).s hr (by decide), ⟨⟨trivial, trivial, trivial⟩, trivial⟩⟩⟩, trivial⟩⟩
def N_check_profile : List Str := [("profile" : Str)]
def b_check_profile : Sts Unit :=
      (.cons (.expr (.call ("check" : Str) m_check (.cons (.call ("is_profile" : Str) m_is_profile (.cons (.v 0) .nil)) .nil)))
      .nil)
def m_check_profile : List PyData → R PyData := defP N_check_profile.length b_check_profile
theorem sc_check_profile : FnScope N_check_profile [("profile" : Str)] (defScope (top 18)) := ⟨by kernel_rfl, by kernel_rfl, by kernel_rfl, by decide +kernel, by kernel_rfl, by decide +kernel, by decide +kernel⟩
theorem ok_check_profile (c : Facts K mg) : FnG P w K mg base 4 "check_profile" m_check_profile 1 :=
  def_okS (N := N_check_profile) (ps := [("profile" : Str)]) (body := b_check_profile) (j := 3) c.d_check_profile sc_check_profile c.fr (fun f fd F => FunD.bindsN F fun _ _ _ _ _ _ us hl => match us, hl with | [_], _ => by kernel_rfl) (by decide +kernel)
      fun A hr => ⟨⟨(ok_check c).s hr (by decide), ⟨⟨(ok_is_profile c).s hr (by decide), ⟨trivial, trivial⟩⟩, trivial⟩⟩, trivial⟩
def N_ups_by : List Str := [("profile" : Str), ("steps" : Str), ("one" : Str), ("other" : Str), ("step" : Str)]
def b_ups_by : Sts Unit :=
      (.cons (.set 1 false false (.lc (.bin .Sub (.sub (.v 3) (.int 1)) (.sub (.v 2) (.int 1))) (.tup [2, 3]) (.zip (.v 0) (.slL (.v 0) (.int 1))) (.bl true) [(("one" : Str), 2), (("other" : Str), 3)]))
      (.cons (.ret (.tup (.cons (.blt .sum (.cons (.lc (.v 4) (.nm 4) (.of (.v 1)) (.cmp .Gt (.v 4) (.int 0)) [(("step" : Str), 4)]) .nil)) (.cons (.neg (.blt .sum (.cons (.lc (.v 4) (.nm 4) (.of (.v 1)) (.cmp .Lt (.v 4) (.int 0)) [(("step" : Str), 4)]) .nil))) .nil))))
      .nil))
def m_ups_by : List PyData → R PyData := defP N_ups_by.length b_ups_by
theorem sc_ups_by : FnScope N_ups_by [("profile" : Str)] (defScope (top 19)) := ⟨by kernel_rfl, by kernel_rfl, by kernel_rfl, by decide +kernel, by kernel_rfl, by decide +kernel, by decide +kernel⟩
theorem ok_ups_by (c : Facts K mg) : FnG P w K mg base 1 "ups_by" m_ups_by 1 :=
  def_okS (N := N_ups_by) (ps := [("profile" : Str)]) (body := b_ups_by) (j := 0) c.d_ups_by sc_ups_by c.fr (fun f fd F => FunD.bindsN F fun _ _ _ _ _ _ us hl => match us, hl with | [_], _ => by kernel_rfl) (by decide +kernel)
      fun A hr => ⟨⟨⟨trivial, ⟨trivial, trivial⟩⟩, trivial, ⟨⟨trivial, trivial⟩, ⟨trivial, trivial⟩⟩⟩, ⟨⟨⟨⟨trivial, ⟨trivial, trivial⟩, trivial⟩, trivial⟩, ⟨⟨⟨trivial, ⟨trivial, trivial⟩, trivial⟩, trivial⟩, trivial⟩⟩, trivial⟩⟩
def N_ups_downs : List Str := [("profile" : Str)]
def b_ups_downs : Sts Unit :=
      (.cons (.expr (.call ("check_profile" : Str) m_check_profile (.cons (.v 0) .nil)))
      (.cons (.ret (.call ("ups_by" : Str) m_ups_by (.cons (.v 0) .nil)))
      .nil))
def m_ups_downs : List PyData → R PyData := defP N_ups_downs.length b_ups_downs
theorem sc_ups_downs : FnScope N_ups_downs [("profile" : Str)] (defScope (top 20)) := ⟨by kernel_rfl, by kernel_rfl, by kernel_rfl, by decide +kernel, by kernel_rfl, by decide +kernel, by decide +kernel⟩
theorem ok_ups_downs (c : Facts K mg) : FnG P w K mg base 5 "ups_downs" m_ups_downs 1 :=
  def_okS (N := N_ups_downs) (ps := [("profile" : Str)]) (body := b_ups_downs) (j := 4) c.d_ups_downs sc_ups_downs c.fr (fun f fd F => FunD.bindsN F fun _ _ _ _ _ _ us hl => match us, hl with | [_], _ => by kernel_rfl) (by decide +kernel)
      fun A hr => ⟨⟨(ok_check_profile c).s hr (by decide), ⟨trivial, trivial⟩⟩, ⟨⟨(ok_ups_by c).s hr (by decide), ⟨trivial, trivial⟩⟩, trivial⟩⟩
def N_is_within : List Str := [("value" : Str), ("low" : Str), ("high" : Str)]
def b_is_within : Sts Unit :=
      (.cons (.ret (.and_ (.call ("is_integer" : Str) m_is_integer (.cons (.v 0) .nil)) (.one (.chain .LtE .LtE (.v 1) (.v 0) (.v 2)))))
      .nil)
def m_is_within : List PyData → R PyData := defP N_is_within.length b_is_within
theorem sc_is_within : FnScope N_is_within [("value" : Str), ("low" : Str), ("high" : Str)] (defScope (top 6)) := ⟨by kernel_rfl, by kernel_rfl, by kernel_rfl, by decide +kernel, by kernel_rfl, by decide +kernel, by decide +kernel⟩
theorem ok_is_within (c : Facts K mg) : FnG P w K mg base 2 "is_within" m_is_within 3 :=
  def_okS (N := N_is_within) (ps := [("value" : Str), ("low" : Str), ("high" : Str)]) (body := b_is_within) (j := 1) c.d_is_within sc_is_within c.fr (fun f fd F => FunD.bindsN F fun _ _ _ _ _ _ us hl => match us, hl with | [_, _, _], _ => by kernel_rfl) (by decide +kernel)
      fun A hr => ⟨⟨⟨(ok_is_integer c).s hr (by decide), ⟨trivial, trivial⟩⟩, ⟨trivial, trivial, trivial⟩⟩, trivial⟩
def N_check_speeds : List Str := [("profile" : Str), ("flat" : Str), ("up" : Str), ("down" : Str), ("one" : Str)]
def b_check_speeds : Sts Unit :=
      (.cons (.expr (.call ("check_profile" : Str) m_check_profile (.cons (.v 0) .nil)))
      (.cons (.expr (.call ("check" : Str) m_check (.cons (.blt .all_ (.cons (.lc (.call ("is_within" : Str) m_is_within (.cons (.v 4) (.cons (.int 1) (.cons (.glob ("MOST_SPEED" : Str) (.int 1000)) .nil)))) (.nm 4) (.of (.tup (.cons (.v 1) (.cons (.v 2) (.cons (.v 3) .nil))))) (.bl true) [(("one" : Str), 4)]) .nil)) .nil)))
      .nil))
def m_check_speeds : List PyData → R PyData := defP N_check_speeds.length b_check_speeds
theorem sc_check_speeds : FnScope N_check_speeds [("profile" : Str), ("flat" : Str), ("up" : Str), ("down" : Str)] (defScope (top 24)) := ⟨by kernel_rfl, by kernel_rfl, by kernel_rfl, by decide +kernel, by kernel_rfl, by decide +kernel, by decide +kernel⟩
theorem ok_check_speeds (c : Facts K mg) : FnG P w K mg base 5 "check_speeds" m_check_speeds 4 :=
  def_okS (N := N_check_speeds) (ps := [("profile" : Str), ("flat" : Str), ("up" : Str), ("down" : Str)]) (body := b_check_speeds) (j := 4) c.d_check_speeds sc_check_speeds c.fr (fun f fd F => FunD.bindsN F fun _ _ _ _ _ _ us hl => match us, hl with | [_, _, _, _], _ => by kernel_rfl) (by decide +kernel)
      fun A hr => ⟨⟨(ok_check_profile c).s hr (by decide), ⟨trivial, trivial⟩⟩, ⟨⟨(ok_check c).s hr (by decide), ⟨⟨⟨⟨trivial, ⟨trivial, ⟨trivial, trivial⟩⟩⟩, trivial, ⟨(ok_is_within c).s hr (by decide), ⟨trivial, ⟨trivial, ⟨c.g_MOST_SPEED, trivial⟩⟩⟩⟩⟩, trivial⟩, trivial⟩⟩, trivial⟩⟩
def N_shared : List Str := [("one" : Str), ("other" : Str)]
def b_shared : Sts Unit :=
      (.cons (.par [0, 1] [false, false] false (.cons (.blt .abs (.cons (.v 0) .nil)) (.cons (.blt .abs (.cons (.v 1) .nil)) .nil)))
      (.cons (.while_ [] 100000 (.cmp .Gt (.v 1) (.int 0))
      (.cons (.par [0, 1] [false, false] false (.cons (.v 1) (.cons (.bin .Mod (.v 0) (.v 1)) .nil)))
      .nil))
      (.cons (.ret (.v 0))
      .nil)))
def m_shared : List PyData → R PyData := defP N_shared.length b_shared
theorem sc_shared : FnScope N_shared [("one" : Str), ("other" : Str)] (defScope (top 10)) := ⟨by kernel_rfl, by kernel_rfl, by kernel_rfl, by decide +kernel, by kernel_rfl, by decide +kernel, by decide +kernel⟩
theorem ok_shared (c : Facts K mg) : FnG P w K mg base 1 "shared" m_shared 2 :=
  def_okS (N := N_shared) (ps := [("one" : Str), ("other" : Str)]) (body := b_shared) (j := 0) c.d_shared sc_shared c.fr (fun f fd F => FunD.bindsN F fun _ _ _ _ _ _ us hl => match us, hl with | [_, _], _ => by kernel_rfl) (by decide +kernel)
      fun A hr => ⟨⟨⟨trivial, trivial⟩, ⟨⟨trivial, trivial⟩, trivial⟩⟩, ⟨⟨⟨trivial, trivial⟩, ⟨⟨trivial, ⟨⟨trivial, trivial⟩, trivial⟩⟩, trivial⟩⟩, ⟨trivial, trivial⟩⟩⟩
def N_ratio : List Str := [("number" : Str), ("divisor" : Str), ("least" : Str)]
def b_ratio : Sts Unit :=
      (.cons (.set 2 false false (.call ("shared" : Str) m_shared (.cons (.v 0) (.cons (.v 1) .nil))))
      (.cons (.ret (.tup (.cons (.bin .FloorDiv (.v 0) (.v 2)) (.cons (.bin .FloorDiv (.v 1) (.v 2)) .nil))))
      .nil))
def m_ratio : List PyData → R PyData := defP N_ratio.length b_ratio
theorem sc_ratio : FnScope N_ratio [("number" : Str), ("divisor" : Str)] (defScope (top 11)) := ⟨by kernel_rfl, by kernel_rfl, by kernel_rfl, by decide +kernel, by kernel_rfl, by decide +kernel, by decide +kernel⟩
theorem ok_ratio (c : Facts K mg) : FnG P w K mg base 2 "ratio" m_ratio 2 :=
  def_okS (N := N_ratio) (ps := [("number" : Str), ("divisor" : Str)]) (body := b_ratio) (j := 1) c.d_ratio sc_ratio c.fr (fun f fd F => FunD.bindsN F fun _ _ _ _ _ _ us hl => match us, hl with | [_, _], _ => by kernel_rfl) (by decide +kernel)
      fun A hr => ⟨⟨(ok_shared c).s hr (by decide), ⟨trivial, ⟨trivial, trivial⟩⟩⟩, ⟨⟨⟨trivial, trivial⟩, ⟨⟨trivial, trivial⟩, trivial⟩⟩, trivial⟩⟩
def N_time_by : List Str := [("metres" : Str), ("ups" : Str), ("downs" : Str), ("speeds" : Str), ("flat" : Str), ("up" : Str), ("down" : Str)]
def b_time_by : Sts Unit :=
      (.cons (.asg [4, 5, 6] false (.v 3))
      (.cons (.ret (.call ("ratio" : Str) m_ratio (.cons (.bin .Add (.bin .Add (.bin .Mult (.bin .Mult (.v 0) (.v 5)) (.v 6)) (.bin .Mult (.bin .Mult (.v 1) (.v 4)) (.v 6))) (.bin .Mult (.bin .Mult (.v 2) (.v 4)) (.v 5))) (.cons (.bin .Mult (.bin .Mult (.v 4) (.v 5)) (.v 6)) .nil))))
      .nil))
def m_time_by : List PyData → R PyData := defP N_time_by.length b_time_by
theorem sc_time_by : FnScope N_time_by [("metres" : Str), ("ups" : Str), ("downs" : Str), ("speeds" : Str)] (defScope (top 25)) := ⟨by kernel_rfl, by kernel_rfl, by kernel_rfl, by decide +kernel, by kernel_rfl, by decide +kernel, by decide +kernel⟩
theorem ok_time_by (c : Facts K mg) : FnG P w K mg base 3 "time_by" m_time_by 4 :=
  def_okS (N := N_time_by) (ps := [("metres" : Str), ("ups" : Str), ("downs" : Str), ("speeds" : Str)]) (body := b_time_by) (j := 2) c.d_time_by sc_time_by c.fr (fun f fd F => FunD.bindsN F fun _ _ _ _ _ _ us hl => match us, hl with | [_, _, _, _], _ => by kernel_rfl) (by decide +kernel)
      fun A hr => ⟨trivial, ⟨⟨(ok_ratio c).s hr (by decide), ⟨⟨⟨⟨⟨trivial, trivial⟩, trivial⟩, ⟨⟨trivial, trivial⟩, trivial⟩⟩, ⟨⟨trivial, trivial⟩, trivial⟩⟩, ⟨⟨⟨trivial, trivial⟩, trivial⟩, trivial⟩⟩⟩, trivial⟩⟩
def N_time_for : List Str := [("profile" : Str), ("flat" : Str), ("up" : Str), ("down" : Str), ("ups" : Str), ("downs" : Str)]
def b_time_for : Sts Unit :=
      (.cons (.expr (.call ("check_speeds" : Str) m_check_speeds (.cons (.v 0) (.cons (.v 1) (.cons (.v 2) (.cons (.v 3) .nil))))))
      (.cons (.asg [4, 5] false (.call ("ups_by" : Str) m_ups_by (.cons (.v 0) .nil)))
      (.cons (.ret (.call ("time_by" : Str) m_time_by (.cons (.sub (.sub (.v 0) (.neg (.int 1))) (.int 0)) (.cons (.v 4) (.cons (.v 5) (.cons (.tup (.cons (.v 1) (.cons (.v 2) (.cons (.v 3) .nil)))) .nil))))))
      .nil)))
def m_time_for : List PyData → R PyData := defP N_time_for.length b_time_for
theorem sc_time_for : FnScope N_time_for [("profile" : Str), ("flat" : Str), ("up" : Str), ("down" : Str)] (defScope (top 26)) := ⟨by kernel_rfl, by kernel_rfl, by kernel_rfl, by decide +kernel, by kernel_rfl, by decide +kernel, by decide +kernel⟩
theorem ok_time_for (c : Facts K mg) : FnG P w K mg base 6 "time_for" m_time_for 4 :=
  def_okS (N := N_time_for) (ps := [("profile" : Str), ("flat" : Str), ("up" : Str), ("down" : Str)]) (body := b_time_for) (j := 5) c.d_time_for sc_time_for c.fr (fun f fd F => FunD.bindsN F fun _ _ _ _ _ _ us hl => match us, hl with | [_, _, _, _], _ => by kernel_rfl) (by decide +kernel)
      fun A hr => ⟨⟨(ok_check_speeds c).s hr (by decide), ⟨trivial, ⟨trivial, ⟨trivial, ⟨trivial, trivial⟩⟩⟩⟩⟩, ⟨⟨(ok_ups_by c).s hr (by decide), ⟨trivial, trivial⟩⟩, ⟨⟨(ok_time_by c).s hr (by decide), ⟨⟨⟨trivial, trivial⟩, trivial⟩, ⟨trivial, ⟨trivial, ⟨⟨trivial, ⟨trivial, ⟨trivial, trivial⟩⟩⟩, trivial⟩⟩⟩⟩⟩, trivial⟩⟩⟩
def N_steepest : List Str := [("profile" : Str), ("best" : Str), ("at" : Str), ("one" : Str), ("other" : Str), ("rise" : Str), ("metres" : Str)]
def b_steepest : Sts Unit :=
      (.cons (.expr (.call ("check_profile" : Str) m_check_profile (.cons (.v 0) .nil)))
      (.cons (.set 1 false false .non)
      (.cons (.for_ [] (.mix [.nm 2, .tup [3, 4]]) (.enumZip (.v 0) (.slL (.v 0) (.int 1)))
      (.cons (.par [5, 6] [false, false] false (.cons (.bin .Sub (.sub (.v 4) (.int 1)) (.sub (.v 3) (.int 1))) (.cons (.bin .Sub (.sub (.v 4) (.int 0)) (.sub (.v 3) (.int 0))) .nil)))
      (.cons (.ite (.or_ (.cmp .Is (.v 1) .non) (.one (.cmp .Gt (.bin .Mult (.v 5) (.sub (.v 1) (.int 1))) (.bin .Mult (.sub (.v 1) (.int 0)) (.v 6)))))
      (.cons (.set 1 false false (.tup (.cons (.v 5) (.cons (.v 6) (.cons (.v 2) .nil)))))
      .nil)
      .nil)
      .nil)))
      (.cons (.ret (.tup (.cons (.call ("ratio" : Str) m_ratio (.cons (.sub (.v 1) (.int 0)) (.cons (.sub (.v 1) (.int 1)) .nil))) (.cons (.sub (.v 1) (.int 2)) .nil))))
      .nil))))
def m_steepest : List PyData → R PyData := defP N_steepest.length b_steepest
theorem sc_steepest : FnScope N_steepest [("profile" : Str)] (defScope (top 23)) := ⟨by kernel_rfl, by kernel_rfl, by kernel_rfl, by decide +kernel, by kernel_rfl, by decide +kernel, by decide +kernel⟩
theorem ok_steepest (c : Facts K mg) : FnG P w K mg base 5 "steepest" m_steepest 1 :=
  def_okS (N := N_steepest) (ps := [("profile" : Str)]) (body := b_steepest) (j := 4) c.d_steepest sc_steepest c.fr (fun f fd F => FunD.bindsN F fun _ _ _ _ _ _ us hl => match us, hl with | [_], _ => by kernel_rfl) (by decide +kernel)
      fun A hr => ⟨⟨(ok_check_profile c).s hr (by decide), ⟨trivial, trivial⟩⟩, ⟨trivial, ⟨⟨⟨trivial, ⟨trivial, trivial⟩⟩, ⟨⟨⟨⟨trivial, trivial⟩, ⟨trivial, trivial⟩⟩, ⟨⟨⟨trivial, trivial⟩, ⟨trivial, trivial⟩⟩, trivial⟩⟩, ⟨⟨⟨⟨trivial, trivial⟩, ⟨⟨trivial, ⟨trivial, trivial⟩⟩, ⟨⟨trivial, trivial⟩, trivial⟩⟩⟩, ⟨⟨trivial, ⟨trivial, ⟨trivial, trivial⟩⟩⟩, trivial⟩, trivial⟩, trivial⟩⟩⟩, ⟨⟨⟨(ok_ratio c).s hr (by decide), ⟨⟨trivial, trivial⟩, ⟨⟨trivial, trivial⟩, trivial⟩⟩⟩, ⟨⟨trivial, trivial⟩, trivial⟩⟩, trivial⟩⟩⟩⟩
def N_highest : List Str := [("profile" : Str), ("at" : Str), ("_" : Str), ("height" : Str)]
def b_highest : Sts Unit :=
      (.cons (.expr (.call ("check_profile" : Str) m_check_profile (.cons (.v 0) .nil)))
      (.cons (.ret (.sub (.blt .min1 (.cons (.lc (.tup (.cons (.neg (.v 3)) (.cons (.v 1) .nil))) (.mix [.nm 1, .tup [2, 3]]) (.enum (.v 0)) (.bl true) [(("at" : Str), 1), (("_" : Str), 2), (("height" : Str), 3)]) .nil)) (.int 1)))
      .nil))
def m_highest : List PyData → R PyData := defP N_highest.length b_highest
theorem sc_highest : FnScope N_highest [("profile" : Str)] (defScope (top 35)) := ⟨by kernel_rfl, by kernel_rfl, by kernel_rfl, by decide +kernel, by kernel_rfl, by decide +kernel, by decide +kernel⟩
theorem ok_highest (c : Facts K mg) : FnG P w K mg base 5 "highest" m_highest 1 :=
  def_okS (N := N_highest) (ps := [("profile" : Str)]) (body := b_highest) (j := 4) c.d_highest sc_highest c.fr (fun f fd F => FunD.bindsN F fun _ _ _ _ _ _ us hl => match us, hl with | [_], _ => by kernel_rfl) (by decide +kernel)
      fun A hr => ⟨⟨(ok_check_profile c).s hr (by decide), ⟨trivial, trivial⟩⟩, ⟨⟨⟨⟨trivial, trivial, ⟨trivial, ⟨trivial, trivial⟩⟩⟩, trivial⟩, trivial⟩, trivial⟩⟩
def N_levels_of : List Str := [("profile" : Str), ("found" : Str), ("at" : Str), ("_" : Str), ("height" : Str)]
def b_levels_of : Sts Unit :=
      (.cons (.set 1 true false (.lst .nil))
      (.cons (.for_ [1] (.mix [.nm 2, .tup [3, 4]]) (.enum (.v 0))
      (.cons (.ite (.or_ (.cmp .Eq (.blt .len (.cons (.v 1) .nil)) (.int 0)) (.one (.cmp .NotEq (.sub (.sub (.v 1) (.neg (.int 1))) (.int 1)) (.v 4))))
      (.cons (.app 1 false (.tup (.cons (.v 2) (.cons (.v 4) .nil))))
      .nil)
      .nil)
      .nil))
      (.cons (.ret (.v 1))
      .nil)))
def m_levels_of : List PyData → R PyData := defP N_levels_of.length b_levels_of
theorem sc_levels_of : FnScope N_levels_of [("profile" : Str)] (defScope (top 33)) := ⟨by kernel_rfl, by kernel_rfl, by kernel_rfl, by decide +kernel, by kernel_rfl, by decide +kernel, by decide +kernel⟩
theorem ok_levels_of (c : Facts K mg) : FnG P w K mg base 1 "levels_of" m_levels_of 1 :=
  def_okS (N := N_levels_of) (ps := [("profile" : Str)]) (body := b_levels_of) (j := 0) c.d_levels_of sc_levels_of c.fr (fun f fd F => FunD.bindsN F fun _ _ _ _ _ _ us hl => match us, hl with | [_], _ => by kernel_rfl) (by decide +kernel)
      fun A hr => ⟨trivial, ⟨⟨trivial, ⟨⟨⟨⟨⟨trivial, trivial⟩, trivial⟩, ⟨⟨⟨trivial, trivial⟩, trivial⟩, trivial⟩⟩, ⟨⟨trivial, ⟨trivial, trivial⟩⟩, trivial⟩, trivial⟩, trivial⟩⟩, ⟨trivial, trivial⟩⟩⟩
def N_summits : List Str := [("profile" : Str), ("rows" : Str), ("one" : Str), ("own" : Str), ("other" : Str)]
def b_summits : Sts Unit :=
      (.cons (.expr (.call ("check_profile" : Str) m_check_profile (.cons (.v 0) .nil)))
      (.cons (.set 1 false false (.call ("levels_of" : Str) m_levels_of (.cons (.v 0) .nil)))
      (.cons (.ret (.lc (.sub (.v 3) (.int 0)) (.tup [2, 3, 4]) (.zip3 (.v 1) (.slL (.v 1) (.int 1)) (.slL (.v 1) (.int 2))) (.chain .Lt .Gt (.sub (.v 2) (.int 1)) (.sub (.v 3) (.int 1)) (.sub (.v 4) (.int 1))) [(("one" : Str), 2), (("own" : Str), 3), (("other" : Str), 4)]))
      .nil)))
def m_summits : List PyData → R PyData := defP N_summits.length b_summits
theorem sc_summits : FnScope N_summits [("profile" : Str)] (defScope (top 34)) := ⟨by kernel_rfl, by kernel_rfl, by kernel_rfl, by decide +kernel, by kernel_rfl, by decide +kernel, by decide +kernel⟩
theorem ok_summits (c : Facts K mg) : FnG P w K mg base 5 "summits" m_summits 1 :=
  def_okS (N := N_summits) (ps := [("profile" : Str)]) (body := b_summits) (j := 4) c.d_summits sc_summits c.fr (fun f fd F => FunD.bindsN F fun _ _ _ _ _ _ us hl => match us, hl with | [_], _ => by kernel_rfl) (by decide +kernel)
      fun A hr => ⟨⟨(ok_check_profile c).s hr (by decide), ⟨trivial, trivial⟩⟩, ⟨⟨(ok_levels_of c).s hr (by decide), ⟨trivial, trivial⟩⟩, ⟨⟨⟨trivial, ⟨trivial, trivial⟩, ⟨trivial, trivial⟩⟩, ⟨⟨trivial, trivial⟩, ⟨trivial, trivial⟩, ⟨trivial, trivial⟩⟩, ⟨trivial, trivial⟩⟩, trivial⟩⟩⟩
def N_law_ratio : List Str := [("a" : Str), ("b" : Str), ("x" : Str), ("y" : Str), ("turn" : Str)]
def b_law_ratio : Sts Unit :=
      (.cons (.par [2, 3] [false, false] false (.cons (.blt .abs (.cons (.v 0) .nil)) (.cons (.blt .abs (.cons (.v 1) .nil)) .nil)))
      (.cons (.for_ [] (.nm 4) (.range1 (.int 4000))
      (.cons (.ite (.cmp .Eq (.v 3) (.int 0))
      (.cons .brk
      .nil)
      .nil)
      (.cons (.par [2, 3] [false, false] false (.cons (.v 3) (.cons (.bin .Mod (.blt .int_ (.cons (.v 2) .nil)) (.v 3)) .nil)))
      .nil)))
      (.cons (.ret (.tup (.cons (.bin .FloorDiv (.v 0) (.v 2)) (.cons (.bin .FloorDiv (.v 1) (.v 2)) .nil))))
      .nil)))
def m_law_ratio : List PyData → R PyData := defP N_law_ratio.length b_law_ratio
theorem sc_law_ratio : FnScope N_law_ratio [("a" : Str), ("b" : Str)] (defScope (top 48)) := ⟨by kernel_rfl, by kernel_rfl, by kernel_rfl, by decide +kernel, by kernel_rfl, by decide +kernel, by decide +kernel⟩
theorem ok_law_ratio (c : Facts K mg) : FnG P w K mg base 1 "_law_ratio" m_law_ratio 2 :=
  def_okS (N := N_law_ratio) (ps := [("a" : Str), ("b" : Str)]) (body := b_law_ratio) (j := 0) c.d_law_ratio sc_law_ratio c.fr (fun f fd F => FunD.bindsN F fun _ _ _ _ _ _ us hl => match us, hl with | [_, _], _ => by kernel_rfl) (by decide +kernel)
      fun A hr => ⟨⟨⟨trivial, trivial⟩, ⟨⟨trivial, trivial⟩, trivial⟩⟩, ⟨⟨trivial, ⟨⟨⟨trivial, trivial⟩, ⟨trivial, trivial⟩, trivial⟩, ⟨⟨trivial, ⟨⟨⟨trivial, trivial⟩, trivial⟩, trivial⟩⟩, trivial⟩⟩⟩, ⟨⟨⟨trivial, trivial⟩, ⟨⟨trivial, trivial⟩, trivial⟩⟩, trivial⟩⟩⟩
def N_height_by : List Str := [("profile" : Str), ("number" : Str), ("divisor" : Str), ("at" : Str), ("m" : Str), ("height" : Str), ("n" : Str), ("other" : Str), ("whole" : Str)]
def b_height_by : Sts Unit :=
      (.cons (.set 3 false false (.blt .max1 (.cons (.lc (.v 3) (.nm 3) (.range1 (.bin .Sub (.blt .len (.cons (.v 0) .nil)) (.int 1))) (.cmp .LtE (.bin .Mult (.sub (.sub (.v 0) (.v 3)) (.int 0)) (.v 2)) (.v 1)) [(("at" : Str), 3)]) .nil)))
      (.cons (.asgM [.tup [4, 5], .tup [6, 7]] false (.tup (.cons (.sub (.v 0) (.v 3)) (.cons (.sub (.v 0) (.bin .Add (.v 3) (.int 1))) .nil))))
      (.cons (.set 8 false false (.bin .Mult (.v 2) (.bin .Sub (.v 6) (.v 4))))
      (.cons (.ret (.tup (.cons (.bin .Add (.bin .Mult (.v 5) (.v 8)) (.bin .Mult (.bin .Sub (.v 7) (.v 5)) (.bin .Sub (.v 1) (.bin .Mult (.v 4) (.v 2))))) (.cons (.v 8) .nil))))
      .nil))))
def m_height_by : List PyData → R PyData := defP N_height_by.length b_height_by
theorem sc_height_by : FnScope N_height_by [("profile" : Str), ("number" : Str), ("divisor" : Str)] (defScope (top 21)) := ⟨by kernel_rfl, by kernel_rfl, by kernel_rfl, by decide +kernel, by kernel_rfl, by decide +kernel, by decide +kernel⟩
theorem ok_height_by (c : Facts K mg) : FnG P w K mg base 1 "height_by" m_height_by 3 :=
  def_okS (N := N_height_by) (ps := [("profile" : Str), ("number" : Str), ("divisor" : Str)]) (body := b_height_by) (j := 0) c.d_height_by sc_height_by c.fr (fun f fd F => FunD.bindsN F fun _ _ _ _ _ _ us hl => match us, hl with | [_, _, _], _ => by kernel_rfl) (by decide +kernel)
      fun A hr => ⟨⟨⟨⟨⟨trivial, trivial⟩, trivial⟩, ⟨⟨⟨⟨trivial, trivial⟩, trivial⟩, trivial⟩, trivial⟩, trivial⟩, trivial⟩, ⟨⟨⟨trivial, trivial⟩, ⟨⟨trivial, ⟨trivial, trivial⟩⟩, trivial⟩⟩, ⟨⟨trivial, ⟨trivial, trivial⟩⟩, ⟨⟨⟨⟨trivial, trivial⟩, ⟨⟨trivial, trivial⟩, ⟨trivial, ⟨trivial, trivial⟩⟩⟩⟩, ⟨trivial, trivial⟩⟩, trivial⟩⟩⟩⟩
def N_height_at : List Str := [("profile" : Str), ("m" : Str), ("number" : Str), ("divisor" : Str)]
def b_height_at : Sts Unit :=
      (.cons (.expr (.call ("check_profile" : Str) m_check_profile (.cons (.v 0) .nil)))
      (.cons (.expr (.call ("check" : Str) m_check (.cons (.call ("is_integer" : Str) m_is_integer (.cons (.v 1) .nil)) .nil)))
      (.cons (.ite (.not_ (.chain .LtE .LtE (.int 0) (.v 1) (.sub (.sub (.v 0) (.neg (.int 1))) (.int 0))))
      (.cons (.raise_ ("NoAnswer" : Str))
      .nil)
      .nil)
      (.cons (.asg [2, 3] false (.call ("height_by" : Str) m_height_by (.cons (.v 0) (.cons (.v 1) (.cons (.int 1) .nil)))))
      (.cons (.ret (.call ("ratio" : Str) m_ratio (.cons (.v 2) (.cons (.v 3) .nil))))
      .nil)))))
def m_height_at : List PyData → R PyData := defP N_height_at.length b_height_at
theorem sc_height_at : FnScope N_height_at [("profile" : Str), ("m" : Str)] (defScope (top 22)) := ⟨by kernel_rfl, by kernel_rfl, by kernel_rfl, by decide +kernel, by kernel_rfl, by decide +kernel, by decide +kernel⟩
theorem ok_height_at (c : Facts K mg) : FnG P w K mg base 5 "height_at" m_height_at 2 :=
  def_okS (N := N_height_at) (ps := [("profile" : Str), ("m" : Str)]) (body := b_height_at) (j := 4) c.d_height_at sc_height_at c.fr (fun f fd F => FunD.bindsN F fun _ _ _ _ _ _ us hl => match us, hl with | [_, _], _ => by kernel_rfl) (by decide +kernel)
      fun A hr => ⟨⟨(ok_check_profile c).s hr (by decide), ⟨trivial, trivial⟩⟩, ⟨⟨(ok_check c).s hr (by decide), ⟨⟨(ok_is_integer c).s hr (by decide), ⟨trivial, trivial⟩⟩, trivial⟩⟩, ⟨⟨⟨trivial, trivial, ⟨⟨trivial, trivial⟩, trivial⟩⟩, ⟨c.x_NoAnswer, trivial⟩, trivial⟩, ⟨⟨(ok_height_by c).s hr (by decide), ⟨trivial, ⟨trivial, ⟨trivial, trivial⟩⟩⟩⟩, ⟨⟨(ok_ratio c).s hr (by decide), ⟨trivial, ⟨trivial, trivial⟩⟩⟩, trivial⟩⟩⟩⟩⟩
def N_law_is_at_most : List Str := [("one" : Str), ("other" : Str)]
def b_law_is_at_most : Sts Unit :=
      (.cons (.ret (.cmp .LtE (.bin .Mult (.sub (.v 0) (.int 0)) (.sub (.v 1) (.int 1))) (.bin .Mult (.sub (.v 1) (.int 0)) (.sub (.v 0) (.int 1)))))
      .nil)
def m_law_is_at_most : List PyData → R PyData := defP N_law_is_at_most.length b_law_is_at_most
theorem sc_law_is_at_most : FnScope N_law_is_at_most [("one" : Str), ("other" : Str)] (defScope (top 50)) := ⟨by kernel_rfl, by kernel_rfl, by kernel_rfl, by decide +kernel, by kernel_rfl, by decide +kernel, by decide +kernel⟩
theorem ok_law_is_at_most (c : Facts K mg) : FnG P w K mg base 1 "_law_is_at_most" m_law_is_at_most 2 :=
  def_okS (N := N_law_is_at_most) (ps := [("one" : Str), ("other" : Str)]) (body := b_law_is_at_most) (j := 0) c.d_law_is_at_most sc_law_is_at_most c.fr (fun f fd F => FunD.bindsN F fun _ _ _ _ _ _ us hl => match us, hl with | [_, _], _ => by kernel_rfl) (by decide +kernel)
      fun A hr => ⟨⟨⟨⟨trivial, trivial⟩, ⟨trivial, trivial⟩⟩, ⟨⟨trivial, trivial⟩, ⟨trivial, trivial⟩⟩⟩, trivial⟩
def N_law_are_tops_due : List Str := [("draws" : Str), ("profile" : Str), ("steps" : Str), ("n" : Str), ("slope" : Str), ("at" : Str), ("k" : Str), ("own" : Str), ("top" : Str), ("last" : Str), ("turn" : Str), ("m" : Str), ("low" : Str), ("j" : Str), ("i" : Str), ("step" : Str)]
def b_law_are_tops_due : Sts (List Int) :=
      (.cons (.asg [4, 5] false (.call ("steepest" : Str) m_steepest (.cons (.v 1) .nil)))
      (.cons (.for_ [] (.nm 6) (.range1 (.bin .Sub (.v 3) (.int 1)))
      (.cons (.set 7 false false (.call ("_law_ratio" : Str) m_law_ratio (.cons (.sub (.v 2) (.v 6)) (.cons (.bin .Sub (.sub (.sub (.v 1) (.bin .Add (.v 6) (.int 1))) (.int 0)) (.sub (.sub (.v 1) (.v 6)) (.int 0))) .nil))))
      (.cons (.ite (.or_ (.not_ (.call ("_law_is_at_most" : Str) m_law_is_at_most (.cons (.v 7) (.cons (.v 4) .nil)))) (.or_ (.and_ (.cmp .Lt (.v 6) (.v 5)) (.one (.cmp .Eq (.v 7) (.v 4)))) (.one (.and_ (.cmp .Eq (.v 6) (.v 5)) (.one (.cmp .NotEq (.v 7) (.v 4)))))))
      (.cons (.ret (.bl false))
      .nil)
      .nil)
      .nil)))
      (.cons (.set 8 false false (.call ("highest" : Str) m_highest (.cons (.v 1) .nil)))
      (.cons (.ite (.cmp .NotEq (.lc (.v 6) (.nm 6) (.range1 (.v 3)) (.or_ (.cmp .Gt (.sub (.sub (.v 1) (.v 6)) (.int 1)) (.sub (.sub (.v 1) (.v 8)) (.int 1))) (.one (.and_ (.cmp .Lt (.v 6) (.v 8)) (.one (.cmp .Eq (.sub (.sub (.v 1) (.v 6)) (.int 1)) (.sub (.sub (.v 1) (.v 8)) (.int 1))))))) [(("k" : Str), 6)]) (.lst .nil))
      (.cons (.ret (.bl false))
      .nil)
      .nil)
      (.cons (.for_ [] (.nm 6) (.of (.call ("summits" : Str) m_summits (.cons (.v 1) .nil)))
      (.cons (.set 9 false false (.sub (.slL (.lc (.v 13) (.nm 13) (.range2 (.v 6) (.v 3)) (.cmp .Eq (.lc (.v 14) (.nm 14) (.range2 (.v 6) (.bin .Add (.v 13) (.int 1))) (.cmp .NotEq (.sub (.sub (.v 1) (.v 14)) (.int 1)) (.sub (.sub (.v 1) (.v 6)) (.int 1))) [(("i" : Str), 14)]) (.lst .nil)) [(("j" : Str), 13)]) (.neg (.int 1))) (.int 0)))
      (.cons (.ite (.or_ (.cmp .Eq (.v 6) (.int 0)) (.or_ (.cmp .Eq (.v 9) (.bin .Sub (.v 3) (.int 1))) (.or_ (.cmp .GtE (.sub (.sub (.v 1) (.bin .Sub (.v 6) (.int 1))) (.int 1)) (.sub (.sub (.v 1) (.v 6)) (.int 1))) (.one (.cmp .GtE (.sub (.sub (.v 1) (.bin .Add (.v 9) (.int 1))) (.int 1)) (.sub (.sub (.v 1) (.v 6)) (.int 1)))))))
      (.cons (.ret (.bl false))
      .nil)
      .nil)
      .nil)))
      (.cons (.ite (.cmp .NotEq (.blt .len (.cons (.call ("summits" : Str) m_summits (.cons (.v 1) .nil)) .nil)) (.blt .len (.cons (.lc (.v 6) (.nm 6) (.range2 (.int 1) (.bin .Sub (.v 3) (.int 1))) (.and_ (.cmp .Gt (.sub (.v 2) (.bin .Sub (.v 6) (.int 1))) (.int 0)) (.one (.cmp .Lt (.sub (.bin .Add (.lc (.v 15) (.nm 15) (.of (.slL (.v 2) (.v 6))) (.cmp .NotEq (.v 15) (.int 0)) [(("step" : Str), 15)]) (.lst (.cons (.int 1) .nil))) (.int 0)) (.int 0)))) [(("k" : Str), 6)]) .nil)))
      (.cons (.ret (.bl false))
      .nil)
      .nil)
      (.cons (.for_ [] (.nm 10) (.range1 (.int 6))
      (.cons (.set 6 false false (.callS ("_law_take" : Str) m_law_take (.cons (.bin .Sub (.v 3) (.int 1)) .nil)))
      (.cons (.set 11 false false (.bin .Add (.sub (.sub (.v 1) (.v 6)) (.int 0)) (.callS ("_law_take" : Str) m_law_take (.cons (.bin .Add (.bin .Sub (.sub (.sub (.v 1) (.bin .Add (.v 6) (.int 1))) (.int 0)) (.sub (.sub (.v 1) (.v 6)) (.int 0))) (.int 1)) .nil))))
      (.cons (.asg [8, 12] false (.call ("height_at" : Str) m_height_at (.cons (.v 1) (.cons (.v 11) .nil))))
      (.cons (.ite (.cmp .NotEq (.bin .Mult (.bin .Sub (.v 8) (.bin .Mult (.sub (.sub (.v 1) (.v 6)) (.int 1)) (.v 12))) (.bin .Sub (.sub (.sub (.v 1) (.bin .Add (.v 6) (.int 1))) (.int 0)) (.sub (.sub (.v 1) (.v 6)) (.int 0)))) (.bin .Mult (.bin .Mult (.sub (.v 2) (.v 6)) (.bin .Sub (.v 11) (.sub (.sub (.v 1) (.v 6)) (.int 0)))) (.v 12)))
      (.cons (.ret (.bl false))
      .nil)
      .nil)
      .nil)))))
      (.cons (.ret (.bl true))
      .nil))))))))
def m_law_are_tops_due : List PyData → M (List Int) PyData := defD N_law_are_tops_due.length b_law_are_tops_due
theorem sc_law_are_tops_due : FnScope N_law_are_tops_due [("draws" : Str), ("profile" : Str), ("steps" : Str), ("n" : Str)] (defScope (top 53)) := ⟨by kernel_rfl, by kernel_rfl, by kernel_rfl, by decide +kernel, by kernel_rfl, by decide +kernel, by decide +kernel⟩
theorem ok_law_are_tops_due (c : Facts K mg) : FnGD P w K mg base 6 "_law_are_tops_due" m_law_are_tops_due 3 :=
  defD_okS (N := N_law_are_tops_due) (ps := [("draws" : Str), ("profile" : Str), ("steps" : Str), ("n" : Str)]) (body := b_law_are_tops_due) (j := 5) c.d_law_are_tops_due sc_law_are_tops_due c.fr (fun f fd F => FunD.bindsN F fun _ _ _ _ _ _ us hl => match us, hl with | [_, _, _, _], _ => by kernel_rfl) rfl (by decide +kernel)
      fun A hr a => ⟨⟨(ok_steepest c).s hr (by decide), ⟨trivial, trivial⟩⟩, ⟨⟨⟨trivial, trivial⟩, ⟨⟨(ok_law_ratio c).s hr (by decide), ⟨⟨trivial, trivial⟩, ⟨⟨⟨⟨trivial, ⟨trivial, trivial⟩⟩, trivial⟩, ⟨⟨trivial, trivial⟩, trivial⟩⟩, trivial⟩⟩⟩, ⟨⟨⟨⟨(ok_law_is_at_most c).s hr (by decide), ⟨trivial, ⟨trivial, trivial⟩⟩⟩, ⟨⟨⟨trivial, trivial⟩, ⟨trivial, trivial⟩⟩, ⟨⟨trivial, trivial⟩, ⟨trivial, trivial⟩⟩⟩⟩, ⟨trivial, trivial⟩, trivial⟩, trivial⟩⟩⟩, ⟨⟨(ok_highest c).s hr (by decide), ⟨trivial, trivial⟩⟩, ⟨⟨⟨⟨trivial, ⟨⟨⟨⟨trivial, trivial⟩, trivial⟩, ⟨⟨trivial, trivial⟩, trivial⟩⟩, ⟨⟨trivial, trivial⟩, ⟨⟨⟨trivial, trivial⟩, trivial⟩, ⟨⟨trivial, trivial⟩, trivial⟩⟩⟩⟩, trivial⟩, trivial⟩, ⟨trivial, trivial⟩, trivial⟩, ⟨⟨⟨(ok_summits c).s hr (by decide), ⟨trivial, trivial⟩⟩, ⟨⟨⟨⟨⟨trivial, trivial⟩, ⟨⟨⟨trivial, ⟨trivial, trivial⟩⟩, ⟨⟨⟨trivial, trivial⟩, trivial⟩, ⟨⟨trivial, trivial⟩, trivial⟩⟩, trivial⟩, trivial⟩, trivial⟩, trivial⟩, trivial⟩, ⟨⟨⟨⟨trivial, trivial⟩, ⟨⟨trivial, ⟨trivial, trivial⟩⟩, ⟨⟨⟨⟨trivial, ⟨trivial, trivial⟩⟩, trivial⟩, ⟨⟨trivial, trivial⟩, trivial⟩⟩, ⟨⟨⟨trivial, ⟨trivial, trivial⟩⟩, trivial⟩, ⟨⟨trivial, trivial⟩, trivial⟩⟩⟩⟩⟩, ⟨trivial, trivial⟩, trivial⟩, trivial⟩⟩⟩, ⟨⟨⟨⟨⟨(ok_summits c).s hr (by decide), ⟨trivial, trivial⟩⟩, trivial⟩, ⟨⟨⟨trivial, ⟨trivial, trivial⟩⟩, ⟨⟨⟨trivial, ⟨trivial, trivial⟩⟩, trivial⟩, ⟨⟨⟨⟨⟨trivial, trivial⟩, ⟨trivial, trivial⟩, trivial⟩, ⟨trivial, trivial⟩⟩, trivial⟩, trivial⟩⟩, trivial⟩, trivial⟩⟩, ⟨trivial, trivial⟩, trivial⟩, ⟨⟨trivial, ⟨⟨(ok_law_take c).s hr (by decide) 0 a, ⟨⟨trivial, trivial⟩, trivial⟩⟩, ⟨⟨⟨⟨trivial, trivial⟩, trivial⟩, ⟨(ok_law_take c).s hr (by decide) 0 a, ⟨⟨⟨⟨⟨trivial, ⟨trivial, trivial⟩⟩, trivial⟩, ⟨⟨trivial, trivial⟩, trivial⟩⟩, trivial⟩, trivial⟩⟩⟩, ⟨⟨(ok_height_at c).s hr (by decide), ⟨trivial, ⟨trivial, trivial⟩⟩⟩, ⟨⟨⟨⟨⟨trivial, ⟨⟨⟨trivial, trivial⟩, trivial⟩, trivial⟩⟩, ⟨⟨⟨trivial, ⟨trivial, trivial⟩⟩, trivial⟩, ⟨⟨trivial, trivial⟩, trivial⟩⟩⟩, ⟨⟨⟨trivial, trivial⟩, ⟨trivial, ⟨⟨trivial, trivial⟩, trivial⟩⟩⟩, trivial⟩⟩, ⟨trivial, trivial⟩, trivial⟩, trivial⟩⟩⟩⟩⟩, ⟨trivial, trivial⟩⟩⟩⟩⟩⟩⟩⟩
def N_law_pick : List Str := [("draws" : Str), ("some" : Str)]
def b_law_pick : Sts (List Int) :=
      (.cons (.ret (.sub (.v 1) (.callS ("_law_take" : Str) m_law_take (.cons (.blt .len (.cons (.v 1) .nil)) .nil))))
      .nil)
def m_law_pick : List PyData → M (List Int) PyData := defD N_law_pick.length b_law_pick
theorem sc_law_pick : FnScope N_law_pick [("draws" : Str), ("some" : Str)] (defScope (top 46)) := ⟨by kernel_rfl, by kernel_rfl, by kernel_rfl, by decide +kernel, by kernel_rfl, by decide +kernel, by decide +kernel⟩
theorem ok_law_pick (c : Facts K mg) : FnGD P w K mg base 2 "_law_pick" m_law_pick 1 :=
  defD_okS (N := N_law_pick) (ps := [("draws" : Str), ("some" : Str)]) (body := b_law_pick) (j := 1) c.d_law_pick sc_law_pick c.fr (fun f fd F => FunD.bindsN F fun _ _ _ _ _ _ us hl => match us, hl with | [_, _], _ => by kernel_rfl) rfl (by decide +kernel)
      fun A hr a => ⟨⟨trivial, ⟨(ok_law_take c).s hr (by decide) 0 a, ⟨⟨trivial, trivial⟩, trivial⟩⟩⟩, trivial⟩
def N_law_steps : List Str := [("profile" : Str), ("k" : Str)]
def b_law_steps : Sts Unit :=
      (.cons (.ret (.lc (.bin .Sub (.sub (.sub (.v 0) (.bin .Add (.v 1) (.int 1))) (.int 1)) (.sub (.sub (.v 0) (.v 1)) (.int 1))) (.nm 1) (.range1 (.bin .Sub (.blt .len (.cons (.v 0) .nil)) (.int 1))) (.bl true) [(("k" : Str), 1)]))
      .nil)
def m_law_steps : List PyData → R PyData := defP N_law_steps.length b_law_steps
theorem sc_law_steps : FnScope N_law_steps [("profile" : Str)] (defScope (top 52)) := ⟨by kernel_rfl, by kernel_rfl, by kernel_rfl, by decide +kernel, by kernel_rfl, by decide +kernel, by decide +kernel⟩
theorem ok_law_steps (c : Facts K mg) : FnG P w K mg base 1 "_law_steps" m_law_steps 1 :=
  def_okS (N := N_law_steps) (ps := [("profile" : Str)]) (body := b_law_steps) (j := 0) c.d_law_steps sc_law_steps c.fr (fun f fd F => FunD.bindsN F fun _ _ _ _ _ _ us hl => match us, hl with | [_], _ => by kernel_rfl) (by decide +kernel)
      fun A hr => ⟨⟨⟨⟨trivial, trivial⟩, trivial⟩, trivial, ⟨⟨⟨trivial, ⟨trivial, trivial⟩⟩, trivial⟩, ⟨⟨trivial, trivial⟩, trivial⟩⟩⟩, trivial⟩
def N_law_same : List Str := [("actual" : Str), ("due" : Str), ("k" : Str), ("key" : Str)]
def b_law_same (m : List PyData → R PyData) : Sts Unit :=
      (.cons (.ite (.cmp .Is (.v 1) .non)
      (.cons (.ret (.cmp .Is (.v 0) .non))
      .nil)
      .nil)
      (.cons (.ite (.or_ (.isa .tuple (.v 1)) (.one (.isa .list (.v 1))))
      (.cons (.ite (.or_ (.cmp .NotEq (.isa .tuple (.v 1)) (.isa .tuple (.v 0))) (.one (.cmp .NotEq (.isa .list (.v 1)) (.isa .list (.v 0)))))
      (.cons (.ret (.bl false))
      .nil)
      .nil)
      (.cons (.ite (.cmp .NotEq (.blt .len (.cons (.v 0) .nil)) (.blt .len (.cons (.v 1) .nil)))
      (.cons (.ret (.bl false))
      .nil)
      .nil)
      (.cons (.for_ [] (.nm 2) (.range1 (.blt .len (.cons (.v 1) .nil)))
      (.cons (.ite (.not_ (.call ("_law_same" : Str) m (.cons (.sub (.v 0) (.v 2)) (.cons (.sub (.v 1) (.v 2)) .nil))))
      (.cons (.ret (.bl false))
      .nil)
      .nil)
      .nil))
      (.cons (.ret (.bl true))
      .nil))))
      .nil)
      (.cons (.ite (.isa .dict (.v 1))
      (.cons (.ite (.or_ (.not_ (.isa .dict (.v 0))) (.one (.cmp .NotEq (.blt .len (.cons (.v 0) .nil)) (.blt .len (.cons (.v 1) .nil)))))
      (.cons (.ret (.bl false))
      .nil)
      .nil)
      (.cons (.ret (.cmp .Eq (.lc (.v 3) (.nm 3) (.of (.v 1)) (.or_ (.cmp .NotIn (.v 3) (.v 0)) (.one (.not_ (.call ("_law_same" : Str) m (.cons (.sub (.v 0) (.v 3)) (.cons (.sub (.v 1) (.v 3)) .nil)))))) [(("key" : Str), 3)]) (.lst .nil)))
      .nil))
      .nil)
      (.cons (.ite (.cmp .NotEq (.isa .bool (.v 1)) (.isa .bool (.v 0)))
      (.cons (.ret (.bl false))
      .nil)
      .nil)
      (.cons (.ite (.or_ (.cmp .NotEq (.isa .int (.v 1)) (.isa .int (.v 0))) (.one (.cmp .NotEq (.isa .str (.v 1)) (.isa .str (.v 0)))))
      (.cons (.ret (.bl false))
      .nil)
      .nil)
      (.cons (.ret (.cmp .Eq (.v 0) (.v 1)))
      .nil))))))
def m_law_same : Nat → List PyData → R PyData
  | 0 => fun _ => .bad
  | n + 1 => defP N_law_same.length (b_law_same (m_law_same n))
theorem sc_law_same : FnScope N_law_same [("actual" : Str), ("due" : Str)] (defScope (top 47)) := ⟨by kernel_rfl, by kernel_rfl, by kernel_rfl, by decide +kernel, by kernel_rfl, by decide +kernel, by decide +kernel⟩
theorem ok_law_same (c : Facts K mg) : ∀ n, FnG P w K mg base (0 + n) "_law_same" (m_law_same n) 2
  | 0 => FnG.mono (FnG.bad (c.d_law_same) (ps := [("actual" : Str), ("due" : Str)]) (fun f fd F => FunD.bindsN F fun _ _ _ _ _ _ us hl => match us, hl with | [_, _], _ => by kernel_rfl) rfl : FnG P w K mg base 0 "_law_same" (fun _ => .bad) 2) (by omega)
  | n + 1 => def_okS (N := N_law_same) (ps := [("actual" : Str), ("due" : Str)]) (body := b_law_same (m_law_same n)) (j := 0 + n) c.d_law_same sc_law_same c.fr (fun f fd F => FunD.bindsN F fun _ _ _ _ _ _ us hl => match us, hl with | [_, _], _ => by kernel_rfl) (by kernel_rfl)
      fun A hr => ⟨⟨⟨trivial, trivial⟩, ⟨⟨trivial, trivial⟩, trivial⟩, trivial⟩, ⟨⟨⟨trivial, trivial⟩, ⟨⟨⟨⟨trivial, trivial⟩, ⟨trivial, trivial⟩⟩, ⟨trivial, trivial⟩, trivial⟩, ⟨⟨⟨⟨trivial, trivial⟩, ⟨trivial, trivial⟩⟩, ⟨trivial, trivial⟩, trivial⟩, ⟨⟨⟨trivial, trivial⟩, ⟨⟨⟨(ok_law_same c n).s hr (by omega), ⟨⟨trivial, trivial⟩, ⟨⟨trivial, trivial⟩, trivial⟩⟩⟩, ⟨trivial, trivial⟩, trivial⟩, trivial⟩⟩, ⟨trivial, trivial⟩⟩⟩⟩, trivial⟩, ⟨⟨trivial, ⟨⟨⟨trivial, ⟨⟨trivial, trivial⟩, ⟨trivial, trivial⟩⟩⟩, ⟨trivial, trivial⟩, trivial⟩, ⟨⟨⟨trivial, ⟨⟨trivial, trivial⟩, ⟨(ok_law_same c n).s hr (by omega), ⟨⟨trivial, trivial⟩, ⟨⟨trivial, trivial⟩, trivial⟩⟩⟩⟩, trivial⟩, trivial⟩, trivial⟩⟩, trivial⟩, ⟨⟨⟨trivial, trivial⟩, ⟨trivial, trivial⟩, trivial⟩, ⟨⟨⟨⟨trivial, trivial⟩, ⟨trivial, trivial⟩⟩, ⟨trivial, trivial⟩, trivial⟩, ⟨⟨trivial, trivial⟩, trivial⟩⟩⟩⟩⟩⟩
def N_time_back : List Str := [("profile" : Str), ("flat" : Str), ("up" : Str), ("down" : Str), ("ups" : Str), ("downs" : Str)]
def b_time_back : Sts Unit :=
      (.cons (.expr (.call ("check_speeds" : Str) m_check_speeds (.cons (.v 0) (.cons (.v 1) (.cons (.v 2) (.cons (.v 3) .nil))))))
      (.cons (.asg [4, 5] false (.call ("ups_by" : Str) m_ups_by (.cons (.v 0) .nil)))
      (.cons (.ret (.call ("time_by" : Str) m_time_by (.cons (.sub (.sub (.v 0) (.neg (.int 1))) (.int 0)) (.cons (.v 5) (.cons (.v 4) (.cons (.tup (.cons (.v 1) (.cons (.v 2) (.cons (.v 3) .nil)))) .nil))))))
      .nil)))
def m_time_back : List PyData → R PyData := defP N_time_back.length b_time_back
theorem sc_time_back : FnScope N_time_back [("profile" : Str), ("flat" : Str), ("up" : Str), ("down" : Str)] (defScope (top 27)) := ⟨by kernel_rfl, by kernel_rfl, by kernel_rfl, by decide +kernel, by kernel_rfl, by decide +kernel, by decide +kernel⟩
theorem ok_time_back (c : Facts K mg) : FnG P w K mg base 6 "time_back" m_time_back 4 :=
  def_okS (N := N_time_back) (ps := [("profile" : Str), ("flat" : Str), ("up" : Str), ("down" : Str)]) (body := b_time_back) (j := 5) c.d_time_back sc_time_back c.fr (fun f fd F => FunD.bindsN F fun _ _ _ _ _ _ us hl => match us, hl with | [_, _, _, _], _ => by kernel_rfl) (by decide +kernel)
      fun A hr => ⟨⟨(ok_check_speeds c).s hr (by decide), ⟨trivial, ⟨trivial, ⟨trivial, ⟨trivial, trivial⟩⟩⟩⟩⟩, ⟨⟨(ok_ups_by c).s hr (by decide), ⟨trivial, trivial⟩⟩, ⟨⟨(ok_time_by c).s hr (by decide), ⟨⟨⟨trivial, trivial⟩, trivial⟩, ⟨trivial, ⟨trivial, ⟨⟨trivial, ⟨trivial, ⟨trivial, trivial⟩⟩⟩, trivial⟩⟩⟩⟩⟩, trivial⟩⟩⟩
def N_thinned_profile : List Str := [("profile" : Str), ("t" : Str), ("found" : Str), ("one" : Str)]
def b_thinned_profile : Sts Unit :=
      (.cons (.expr (.call ("check_profile" : Str) m_check_profile (.cons (.v 0) .nil)))
      (.cons (.expr (.call ("check" : Str) m_check (.cons (.call ("is_within" : Str) m_is_within (.cons (.v 1) (.cons (.int 0) (.cons (.glob ("MOST_THINNED" : Str) (.int 100000)) .nil)))) .nil)))
      (.cons (.set 2 true false (.lst (.cons (.sub (.v 0) (.int 0)) .nil)))
      (.cons (.for_ [2] (.nm 3) (.of (.sl (.v 0) (.int 1) (.neg (.int 1))))
      (.cons (.ite (.cmp .GtE (.blt .abs (.cons (.bin .Sub (.sub (.v 3) (.int 1)) (.sub (.sub (.v 2) (.neg (.int 1))) (.int 1))) .nil)) (.v 1))
      (.cons (.app 2 false (.v 3))
      .nil)
      .nil)
      .nil))
      (.cons (.ret (.disp false [true, false] (.cons (.v 2) (.cons (.sub (.v 0) (.neg (.int 1))) .nil))))
      .nil)))))
def m_thinned_profile : List PyData → R PyData := defP N_thinned_profile.length b_thinned_profile
theorem sc_thinned_profile : FnScope N_thinned_profile [("profile" : Str), ("t" : Str)] (defScope (top 28)) := ⟨by kernel_rfl, by kernel_rfl, by kernel_rfl, by decide +kernel, by kernel_rfl, by decide +kernel, by decide +kernel⟩
theorem ok_thinned_profile (c : Facts K mg) : FnG P w K mg base 5 "thinned_profile" m_thinned_profile 2 :=
  def_okS (N := N_thinned_profile) (ps := [("profile" : Str), ("t" : Str)]) (body := b_thinned_profile) (j := 4) c.d_thinned_profile sc_thinned_profile c.fr (fun f fd F => FunD.bindsN F fun _ _ _ _ _ _ us hl => match us, hl with | [_, _], _ => by kernel_rfl) (by decide +kernel)
      fun A hr => ⟨⟨(ok_check_profile c).s hr (by decide), ⟨trivial, trivial⟩⟩, ⟨⟨(ok_check c).s hr (by decide), ⟨⟨(ok_is_within c).s hr (by decide), ⟨trivial, ⟨trivial, ⟨c.g_MOST_THINNED, trivial⟩⟩⟩⟩, trivial⟩⟩, ⟨⟨⟨trivial, trivial⟩, trivial⟩, ⟨⟨⟨trivial, trivial, trivial⟩, ⟨⟨⟨⟨⟨⟨trivial, trivial⟩, ⟨⟨trivial, trivial⟩, trivial⟩⟩, trivial⟩, trivial⟩, ⟨trivial, trivial⟩, trivial⟩, trivial⟩⟩, ⟨⟨trivial, ⟨⟨trivial, trivial⟩, trivial⟩⟩, trivial⟩⟩⟩⟩⟩
def N_check_there : List Str := [("is_there" : Str)]
def b_check_there : Sts Unit :=
      (.cons (.ite (.not_ (.v 0))
      (.cons (.raise_ ("NotThere" : Str))
      .nil)
      .nil)
      .nil)
def m_check_there : List PyData → R PyData := defP N_check_there.length b_check_there
theorem sc_check_there : FnScope N_check_there [("is_there" : Str)] (defScope (top 9)) := ⟨by kernel_rfl, by kernel_rfl, by kernel_rfl, by decide +kernel, by kernel_rfl, by decide +kernel, by decide +kernel⟩
theorem ok_check_there (c : Facts K mg) : FnG P w K mg base 1 "check_there" m_check_there 1 :=
  def_okS (N := N_check_there) (ps := [("is_there" : Str)]) (body := b_check_there) (j := 0) c.d_check_there sc_check_there c.fr (fun f fd F => FunD.bindsN F fun _ _ _ _ _ _ us hl => match us, hl with | [_], _ => by kernel_rfl) (by decide +kernel)
      fun A hr => ⟨⟨trivial, ⟨c.x_NotThere, trivial⟩, trivial⟩, trivial⟩
def N_check_indexes : List Str := [("profile" : Str), ("indexes" : Str), ("at" : Str)]
def b_check_indexes : Sts Unit :=
      (.cons (.expr (.call ("check_profile" : Str) m_check_profile (.cons (.v 0) .nil)))
      (.cons (.expr (.call ("check" : Str) m_check (.cons (.blt .all_ (.cons (.lc (.call ("is_integer" : Str) m_is_integer (.cons (.v 2) .nil)) (.nm 2) (.of (.v 1)) (.bl true) [(("at" : Str), 2)]) .nil)) .nil)))
      (.cons (.expr (.call ("check_there" : Str) m_check_there (.cons (.blt .all_ (.cons (.lc (.chain .LtE .Lt (.int 0) (.v 2) (.blt .len (.cons (.v 0) .nil))) (.nm 2) (.of (.v 1)) (.bl true) [(("at" : Str), 2)]) .nil)) .nil)))
      .nil)))
def m_check_indexes : List PyData → R PyData := defP N_check_indexes.length b_check_indexes
theorem sc_check_indexes : FnScope N_check_indexes [("profile" : Str), ("indexes" : Str)] (defScope (top 29)) := ⟨by kernel_rfl, by kernel_rfl, by kernel_rfl, by decide +kernel, by kernel_rfl, by decide +kernel, by decide +kernel⟩
theorem ok_check_indexes (c : Facts K mg) : FnG P w K mg base 5 "check_indexes" m_check_indexes 2 :=
  def_okS (N := N_check_indexes) (ps := [("profile" : Str), ("indexes" : Str)]) (body := b_check_indexes) (j := 4) c.d_check_indexes sc_check_indexes c.fr (fun f fd F => FunD.bindsN F fun _ _ _ _ _ _ us hl => match us, hl with | [_, _], _ => by kernel_rfl) (by decide +kernel)
      fun A hr => ⟨⟨(ok_check_profile c).s hr (by decide), ⟨trivial, trivial⟩⟩, ⟨⟨(ok_check c).s hr (by decide), ⟨⟨⟨trivial, trivial, ⟨(ok_is_integer c).s hr (by decide), ⟨trivial, trivial⟩⟩⟩, trivial⟩, trivial⟩⟩, ⟨⟨(ok_check_there c).s hr (by decide), ⟨⟨⟨trivial, trivial, ⟨trivial, trivial, ⟨trivial, trivial⟩⟩⟩, trivial⟩, trivial⟩⟩, trivial⟩⟩⟩
def N_sees_by : List Str := [("profile" : Str), ("i" : Str), ("j" : Str), ("low" : Str), ("high" : Str), ("m" : Str), ("height" : Str), ("n" : Str), ("other" : Str), ("rows" : Str), ("at" : Str), ("own" : Str)]
def b_sees_by : Sts Unit :=
      (.cons (.par [3, 4] [false, false] false (.cons (.blt .min2 (.cons (.v 1) (.cons (.v 2) .nil))) (.cons (.blt .max2 (.cons (.v 1) (.cons (.v 2) .nil))) .nil)))
      (.cons (.asgM [.tup [5, 6], .tup [7, 8]] false (.tup (.cons (.sub (.v 0) (.v 3)) (.cons (.sub (.v 0) (.v 4)) .nil))))
      (.cons (.set 9 false false (.sl (.v 0) (.bin .Add (.v 3) (.int 1)) (.v 4)))
      (.cons (.ret (.blt .all_ (.cons (.lc (.cmp .LtE (.bin .Mult (.bin .Sub (.v 11) (.v 6)) (.bin .Sub (.v 7) (.v 5))) (.bin .Mult (.bin .Sub (.v 8) (.v 6)) (.bin .Sub (.v 10) (.v 5)))) (.tup [10, 11]) (.of (.v 9)) (.bl true) [(("at" : Str), 10), (("own" : Str), 11)]) .nil)))
      .nil))))
def m_sees_by : List PyData → R PyData := defP N_sees_by.length b_sees_by
theorem sc_sees_by : FnScope N_sees_by [("profile" : Str), ("i" : Str), ("j" : Str)] (defScope (top 30)) := ⟨by kernel_rfl, by kernel_rfl, by kernel_rfl, by decide +kernel, by kernel_rfl, by decide +kernel, by decide +kernel⟩
theorem ok_sees_by (c : Facts K mg) : FnG P w K mg base 1 "sees_by" m_sees_by 3 :=
  def_okS (N := N_sees_by) (ps := [("profile" : Str), ("i" : Str), ("j" : Str)]) (body := b_sees_by) (j := 0) c.d_sees_by sc_sees_by c.fr (fun f fd F => FunD.bindsN F fun _ _ _ _ _ _ us hl => match us, hl with | [_, _, _], _ => by kernel_rfl) (by decide +kernel)
      fun A hr => ⟨⟨⟨trivial, ⟨trivial, trivial⟩⟩, ⟨⟨trivial, ⟨trivial, trivial⟩⟩, trivial⟩⟩, ⟨⟨⟨trivial, trivial⟩, ⟨⟨trivial, trivial⟩, trivial⟩⟩, ⟨⟨trivial, ⟨trivial, trivial⟩, trivial⟩, ⟨⟨⟨trivial, trivial, ⟨⟨⟨trivial, trivial⟩, ⟨trivial, trivial⟩⟩, ⟨⟨trivial, trivial⟩, ⟨trivial, trivial⟩⟩⟩⟩, trivial⟩, trivial⟩⟩⟩⟩
def N_seen_points : List Str := [("profile" : Str), ("i" : Str), ("j" : Str)]
def b_seen_points : Sts Unit :=
      (.cons (.expr (.call ("check_indexes" : Str) m_check_indexes (.cons (.v 0) (.cons (.lst (.cons (.v 1) .nil)) .nil))))
      (.cons (.ret (.lc (.v 2) (.nm 2) (.range1 (.blt .len (.cons (.v 0) .nil))) (.and_ (.cmp .NotEq (.v 2) (.v 1)) (.one (.call ("sees_by" : Str) m_sees_by (.cons (.v 0) (.cons (.v 1) (.cons (.v 2) .nil)))))) [(("j" : Str), 2)]))
      .nil))
def m_seen_points : List PyData → R PyData := defP N_seen_points.length b_seen_points
theorem sc_seen_points : FnScope N_seen_points [("profile" : Str), ("i" : Str)] (defScope (top 32)) := ⟨by kernel_rfl, by kernel_rfl, by kernel_rfl, by decide +kernel, by kernel_rfl, by decide +kernel, by decide +kernel⟩
theorem ok_seen_points (c : Facts K mg) : FnG P w K mg base 6 "seen_points" m_seen_points 2 :=
  def_okS (N := N_seen_points) (ps := [("profile" : Str), ("i" : Str)]) (body := b_seen_points) (j := 5) c.d_seen_points sc_seen_points c.fr (fun f fd F => FunD.bindsN F fun _ _ _ _ _ _ us hl => match us, hl with | [_, _], _ => by kernel_rfl) (by decide +kernel)
      fun A hr => ⟨⟨(ok_check_indexes c).s hr (by decide), ⟨trivial, ⟨⟨trivial, trivial⟩, trivial⟩⟩⟩, ⟨⟨⟨trivial, trivial⟩, ⟨⟨trivial, trivial⟩, ⟨(ok_sees_by c).s hr (by decide), ⟨trivial, ⟨trivial, ⟨trivial, trivial⟩⟩⟩⟩⟩, trivial⟩, trivial⟩⟩
def N_cut_profile : List Str := [("profile" : Str), ("i" : Str), ("j" : Str), ("m" : Str), ("height" : Str)]
def b_cut_profile : Sts Unit :=
      (.cons (.expr (.call ("check_profile" : Str) m_check_profile (.cons (.v 0) .nil)))
      (.cons (.expr (.call ("check" : Str) m_check (.cons (.and_ (.call ("is_integer" : Str) m_is_integer (.cons (.v 1) .nil)) (.and_ (.call ("is_integer" : Str) m_is_integer (.cons (.v 2) .nil)) (.one (.cmp .Lt (.v 1) (.v 2))))) .nil)))
      (.cons (.expr (.call ("check_indexes" : Str) m_check_indexes (.cons (.v 0) (.cons (.lst (.cons (.v 1) (.cons (.v 2) .nil))) .nil))))
      (.cons (.ret (.lc (.tup (.cons (.bin .Sub (.v 3) (.sub (.sub (.v 0) (.v 1)) (.int 0))) (.cons (.v 4) .nil))) (.tup [3, 4]) (.of (.sl (.v 0) (.v 1) (.bin .Add (.v 2) (.int 1)))) (.bl true) [(("m" : Str), 3), (("height" : Str), 4)]))
      .nil))))
def m_cut_profile : List PyData → R PyData := defP N_cut_profile.length b_cut_profile
theorem sc_cut_profile : FnScope N_cut_profile [("profile" : Str), ("i" : Str), ("j" : Str)] (defScope (top 36)) := ⟨by kernel_rfl, by kernel_rfl, by kernel_rfl, by decide +kernel, by kernel_rfl, by decide +kernel, by decide +kernel⟩
theorem ok_cut_profile (c : Facts K mg) : FnG P w K mg base 6 "cut_profile" m_cut_profile 3 :=
  def_okS (N := N_cut_profile) (ps := [("profile" : Str), ("i" : Str), ("j" : Str)]) (body := b_cut_profile) (j := 5) c.d_cut_profile sc_cut_profile c.fr (fun f fd F => FunD.bindsN F fun _ _ _ _ _ _ us hl => match us, hl with | [_, _, _], _ => by kernel_rfl) (by decide +kernel)
      fun A hr => ⟨⟨(ok_check_profile c).s hr (by decide), ⟨trivial, trivial⟩⟩, ⟨⟨(ok_check c).s hr (by decide), ⟨⟨⟨(ok_is_integer c).s hr (by decide), ⟨trivial, trivial⟩⟩, ⟨⟨(ok_is_integer c).s hr (by decide), ⟨trivial, trivial⟩⟩, ⟨trivial, trivial⟩⟩⟩, trivial⟩⟩, ⟨⟨(ok_check_indexes c).s hr (by decide), ⟨trivial, ⟨⟨trivial, ⟨trivial, trivial⟩⟩, trivial⟩⟩⟩, ⟨⟨⟨trivial, trivial, ⟨trivial, trivial⟩⟩, trivial, ⟨⟨trivial, ⟨⟨trivial, trivial⟩, trivial⟩⟩, ⟨trivial, trivial⟩⟩⟩, trivial⟩⟩⟩⟩
def N_are_told_pairs : List Str := [("values" : Str), ("value" : Str)]
def b_are_told_pairs : Sts Unit :=
      (.cons (.ret (.blt .all_ (.cons (.lc (.and_ (.isa .tuple (.v 1)) (.and_ (.cmp .Eq (.blt .len (.cons (.v 1) .nil)) (.int 2)) (.one (.call ("is_integer" : Str) m_is_integer (.cons (.sub (.v 1) (.int 0)) .nil))))) (.nm 1) (.of (.v 0)) (.bl true) [(("value" : Str), 1)]) .nil)))
      .nil)
def m_are_told_pairs : List PyData → R PyData := defP N_are_told_pairs.length b_are_told_pairs
theorem sc_are_told_pairs : FnScope N_are_told_pairs [("values" : Str)] (defScope (top 39)) := ⟨by kernel_rfl, by kernel_rfl, by kernel_rfl, by decide +kernel, by kernel_rfl, by decide +kernel, by decide +kernel⟩
theorem ok_are_told_pairs (c : Facts K mg) : FnG P w K mg base 2 "are_told_pairs" m_are_told_pairs 1 :=
  def_okS (N := N_are_told_pairs) (ps := [("values" : Str)]) (body := b_are_told_pairs) (j := 1) c.d_are_told_pairs sc_are_told_pairs c.fr (fun f fd F => FunD.bindsN F fun _ _ _ _ _ _ us hl => match us, hl with | [_], _ => by kernel_rfl) (by decide +kernel)
      fun A hr => ⟨⟨⟨trivial, trivial, ⟨trivial, ⟨⟨⟨trivial, trivial⟩, trivial⟩, ⟨(ok_is_integer c).s hr (by decide), ⟨⟨trivial, trivial⟩, trivial⟩⟩⟩⟩⟩, trivial⟩, trivial⟩
def N_need_profile : List Str := [("profile" : Str), ("_" : Str), ("height" : Str), ("metres" : Str)]
def b_need_profile : Sts Unit :=
      (.cons (.expr (.call ("check" : Str) m_check (.cons (.and_ (.isa .list (.v 0)) (.and_ (.chain .LtE .LtE (.int 2) (.blt .len (.cons (.v 0) .nil)) (.int 100)) (.one (.call ("are_told_pairs" : Str) m_are_told_pairs (.cons (.v 0) .nil))))) .nil)))
      (.cons (.expr (.call ("check" : Str) m_check (.cons (.and_ (.blt .all_ (.cons (.lc (.call ("is_integer" : Str) m_is_integer (.cons (.v 2) .nil)) (.tup [1, 2]) (.of (.v 0)) (.bl true) [(("_" : Str), 1), (("height" : Str), 2)]) .nil)) (.one (.cmp .Eq (.sub (.sub (.v 0) (.int 0)) (.int 0)) (.int 0)))) .nil)))
      (.cons (.expr (.call ("check" : Str) m_check (.cons (.call ("are_ascending" : Str) m_are_ascending (.cons (.lc (.v 3) (.tup [3, 1]) (.of (.v 0)) (.bl true) [(("metres" : Str), 3), (("_" : Str), 1)]) .nil)) .nil)))
      .nil)))
def m_need_profile : List PyData → R PyData := defP N_need_profile.length b_need_profile
theorem sc_need_profile : FnScope N_need_profile [("profile" : Str)] (defScope (top 40)) := ⟨by kernel_rfl, by kernel_rfl, by kernel_rfl, by decide +kernel, by kernel_rfl, by decide +kernel, by decide +kernel⟩
theorem ok_need_profile (c : Facts K mg) : FnG P w K mg base 3 "need_profile" m_need_profile 1 :=
  def_okS (N := N_need_profile) (ps := [("profile" : Str)]) (body := b_need_profile) (j := 2) c.d_need_profile sc_need_profile c.fr (fun f fd F => FunD.bindsN F fun _ _ _ _ _ _ us hl => match us, hl with | [_], _ => by kernel_rfl) (by decide +kernel)
      fun A hr => ⟨⟨(ok_check c).s hr (by decide), ⟨⟨trivial, ⟨⟨trivial, ⟨trivial, trivial⟩, trivial⟩, ⟨(ok_are_told_pairs c).s hr (by decide), ⟨trivial, trivial⟩⟩⟩⟩, trivial⟩⟩, ⟨⟨(ok_check c).s hr (by decide), ⟨⟨⟨⟨trivial, trivial, ⟨(ok_is_integer c).s hr (by decide), ⟨trivial, trivial⟩⟩⟩, trivial⟩, ⟨⟨⟨trivial, trivial⟩, trivial⟩, trivial⟩⟩, trivial⟩⟩, ⟨⟨(ok_check c).s hr (by decide), ⟨⟨(ok_are_ascending c).s hr (by decide), ⟨⟨trivial, trivial, trivial⟩, trivial⟩⟩, trivial⟩⟩, trivial⟩⟩⟩
def N_takes_time : List Str := [("profile" : Str), ("flat" : Str), ("up" : Str), ("down" : Str), ("n" : Str), ("d" : Str), ("steps" : Str), ("ups" : Str), ("downs" : Str), ("due" : Str), ("speed" : Str), ("one" : Str), ("other" : Str), ("step" : Str)]
def b_takes_time : Sts Unit :=
      (.cons (.expr (.call ("need_profile" : Str) m_need_profile (.cons (.v 0) .nil)))
      (.cons (.ite (.not_ (.blt .all_ (.cons (.lc (.call ("is_within" : Str) m_is_within (.cons (.v 10) (.cons (.int 1) (.cons (.int 1000) .nil)))) (.nm 10) (.of (.tup (.cons (.v 1) (.cons (.v 2) (.cons (.v 3) .nil))))) (.bl true) [(("speed" : Str), 10)]) .nil)))
      (.cons (.ret (.bl false))
      .nil)
      .nil)
      (.cons (.set 6 false false (.lc (.bin .Sub (.sub (.v 12) (.int 1)) (.sub (.v 11) (.int 1))) (.tup [11, 12]) (.zip (.v 0) (.slL (.v 0) (.int 1))) (.bl true) [(("one" : Str), 11), (("other" : Str), 12)]))
      (.cons (.par [7, 8] [false, false] false (.cons (.blt .sum (.cons (.lc (.v 13) (.nm 13) (.of (.v 6)) (.cmp .Gt (.v 13) (.int 0)) [(("step" : Str), 13)]) .nil)) (.cons (.neg (.blt .sum (.cons (.lc (.v 13) (.nm 13) (.of (.v 6)) (.cmp .Lt (.v 13) (.int 0)) [(("step" : Str), 13)]) .nil))) .nil)))
      (.cons (.set 9 false false (.call ("ratio" : Str) m_ratio (.cons (.bin .Add (.bin .Add (.bin .Mult (.bin .Mult (.sub (.sub (.v 0) (.neg (.int 1))) (.int 0)) (.v 2)) (.v 3)) (.bin .Mult (.bin .Mult (.v 7) (.v 1)) (.v 3))) (.bin .Mult (.bin .Mult (.v 8) (.v 1)) (.v 2))) (.cons (.bin .Mult (.bin .Mult (.v 1) (.v 2)) (.v 3)) .nil))))
      (.cons (.ret (.cmp .Eq (.tup (.cons (.v 4) (.cons (.v 5) .nil))) (.v 9)))
      .nil))))))
def m_takes_time : List PyData → R PyData := defP N_takes_time.length b_takes_time
theorem sc_takes_time : FnScope N_takes_time [("profile" : Str), ("flat" : Str), ("up" : Str), ("down" : Str), ("n" : Str), ("d" : Str)] (defScope (top 41)) := ⟨by kernel_rfl, by kernel_rfl, by kernel_rfl, by decide +kernel, by kernel_rfl, by decide +kernel, by decide +kernel⟩
theorem ok_takes_time (c : Facts K mg) : FnG P w K mg base 4 "takes_time" m_takes_time 6 :=
  def_okS (N := N_takes_time) (ps := [("profile" : Str), ("flat" : Str), ("up" : Str), ("down" : Str), ("n" : Str), ("d" : Str)]) (body := b_takes_time) (j := 3) c.d_takes_time sc_takes_time c.fr (fun f fd F => FunD.bindsN F fun _ _ _ _ _ _ us hl => match us, hl with | [_, _, _, _, _, _], _ => by kernel_rfl) (by decide +kernel)
      fun A hr => ⟨⟨(ok_need_profile c).s hr (by decide), ⟨trivial, trivial⟩⟩, ⟨⟨⟨⟨⟨trivial, ⟨trivial, ⟨trivial, trivial⟩⟩⟩, trivial, ⟨(ok_is_within c).s hr (by decide), ⟨trivial, ⟨trivial, ⟨trivial, trivial⟩⟩⟩⟩⟩, trivial⟩, ⟨trivial, trivial⟩, trivial⟩, ⟨⟨⟨trivial, ⟨trivial, trivial⟩⟩, trivial, ⟨⟨trivial, trivial⟩, ⟨trivial, trivial⟩⟩⟩, ⟨⟨⟨⟨trivial, ⟨trivial, trivial⟩, trivial⟩, trivial⟩, ⟨⟨⟨trivial, ⟨trivial, trivial⟩, trivial⟩, trivial⟩, trivial⟩⟩, ⟨⟨(ok_ratio c).s hr (by decide), ⟨⟨⟨⟨⟨⟨⟨trivial, trivial⟩, trivial⟩, trivial⟩, trivial⟩, ⟨⟨trivial, trivial⟩, trivial⟩⟩, ⟨⟨trivial, trivial⟩, trivial⟩⟩, ⟨⟨⟨trivial, trivial⟩, trivial⟩, trivial⟩⟩⟩, ⟨⟨⟨trivial, ⟨trivial, trivial⟩⟩, trivial⟩, trivial⟩⟩⟩⟩⟩⟩
def N_law_plus : List Str := [("one" : Str), ("other" : Str)]
def b_law_plus : Sts Unit :=
      (.cons (.ret (.call ("_law_ratio" : Str) m_law_ratio (.cons (.bin .Add (.bin .Mult (.sub (.v 0) (.int 0)) (.sub (.v 1) (.int 1))) (.bin .Mult (.sub (.v 1) (.int 0)) (.sub (.v 0) (.int 1)))) (.cons (.bin .Mult (.sub (.v 0) (.int 1)) (.sub (.v 1) (.int 1))) .nil))))
      .nil)
def m_law_plus : List PyData → R PyData := defP N_law_plus.length b_law_plus
theorem sc_law_plus : FnScope N_law_plus [("one" : Str), ("other" : Str)] (defScope (top 49)) := ⟨by kernel_rfl, by kernel_rfl, by kernel_rfl, by decide +kernel, by kernel_rfl, by decide +kernel, by decide +kernel⟩
theorem ok_law_plus (c : Facts K mg) : FnG P w K mg base 2 "_law_plus" m_law_plus 2 :=
  def_okS (N := N_law_plus) (ps := [("one" : Str), ("other" : Str)]) (body := b_law_plus) (j := 1) c.d_law_plus sc_law_plus c.fr (fun f fd F => FunD.bindsN F fun _ _ _ _ _ _ us hl => match us, hl with | [_, _], _ => by kernel_rfl) (by decide +kernel)
      fun A hr => ⟨⟨(ok_law_ratio c).s hr (by decide), ⟨⟨⟨⟨trivial, trivial⟩, ⟨trivial, trivial⟩⟩, ⟨⟨trivial, trivial⟩, ⟨trivial, trivial⟩⟩⟩, ⟨⟨⟨trivial, trivial⟩, ⟨trivial, trivial⟩⟩, trivial⟩⟩⟩, trivial⟩
def N_takes_thinned : List Str := [("profile" : Str), ("t" : Str), ("told" : Str), ("found" : Str), ("point" : Str)]
def b_takes_thinned : Sts Unit :=
      (.cons (.expr (.call ("need_profile" : Str) m_need_profile (.cons (.v 0) .nil)))
      (.cons (.ite (.not_ (.call ("is_within" : Str) m_is_within (.cons (.v 1) (.cons (.int 0) (.cons (.int 100000) .nil)))))
      (.cons (.ret (.bl false))
      .nil)
      .nil)
      (.cons (.set 3 true false (.lst (.cons (.sub (.v 0) (.int 0)) .nil)))
      (.cons (.for_ [3] (.nm 4) (.of (.sl (.v 0) (.int 1) (.neg (.int 1))))
      (.cons (.ite (.cmp .GtE (.blt .abs (.cons (.bin .Sub (.sub (.v 4) (.int 1)) (.sub (.sub (.v 3) (.neg (.int 1))) (.int 1))) .nil)) (.v 1))
      (.cons (.app 3 false (.v 4))
      .nil)
      .nil)
      .nil))
      (.cons (.ret (.cmp .Eq (.v 2) (.disp false [true, false] (.cons (.v 3) (.cons (.sub (.v 0) (.neg (.int 1))) .nil)))))
      .nil)))))
def m_takes_thinned : List PyData → R PyData := defP N_takes_thinned.length b_takes_thinned
theorem sc_takes_thinned : FnScope N_takes_thinned [("profile" : Str), ("t" : Str), ("told" : Str)] (defScope (top 42)) := ⟨by kernel_rfl, by kernel_rfl, by kernel_rfl, by decide +kernel, by kernel_rfl, by decide +kernel, by decide +kernel⟩
theorem ok_takes_thinned (c : Facts K mg) : FnG P w K mg base 4 "takes_thinned" m_takes_thinned 3 :=
  def_okS (N := N_takes_thinned) (ps := [("profile" : Str), ("t" : Str), ("told" : Str)]) (body := b_takes_thinned) (j := 3) c.d_takes_thinned sc_takes_thinned c.fr (fun f fd F => FunD.bindsN F fun _ _ _ _ _ _ us hl => match us, hl with | [_, _, _], _ => by kernel_rfl) (by decide +kernel)
      fun A hr => ⟨⟨(ok_need_profile c).s hr (by decide), ⟨trivial, trivial⟩⟩, ⟨⟨⟨(ok_is_within c).s hr (by decide), ⟨trivial, ⟨trivial, ⟨trivial, trivial⟩⟩⟩⟩, ⟨trivial, trivial⟩, trivial⟩, ⟨⟨⟨trivial, trivial⟩, trivial⟩, ⟨⟨⟨trivial, trivial, trivial⟩, ⟨⟨⟨⟨⟨⟨trivial, trivial⟩, ⟨⟨trivial, trivial⟩, trivial⟩⟩, trivial⟩, trivial⟩, ⟨trivial, trivial⟩, trivial⟩, trivial⟩⟩, ⟨⟨trivial, ⟨trivial, ⟨⟨trivial, trivial⟩, trivial⟩⟩⟩, trivial⟩⟩⟩⟩⟩
def N_sees : List Str := [("profile" : Str), ("i" : Str), ("j" : Str)]
def b_sees : Sts Unit :=
      (.cons (.expr (.call ("check_indexes" : Str) m_check_indexes (.cons (.v 0) (.cons (.lst (.cons (.v 1) (.cons (.v 2) .nil))) .nil))))
      (.cons (.ret (.call ("sees_by" : Str) m_sees_by (.cons (.v 0) (.cons (.v 1) (.cons (.v 2) .nil)))))
      .nil))
def m_sees : List PyData → R PyData := defP N_sees.length b_sees
theorem sc_sees : FnScope N_sees [("profile" : Str), ("i" : Str), ("j" : Str)] (defScope (top 31)) := ⟨by kernel_rfl, by kernel_rfl, by kernel_rfl, by decide +kernel, by kernel_rfl, by decide +kernel, by decide +kernel⟩
theorem ok_sees (c : Facts K mg) : FnG P w K mg base 6 "sees" m_sees 3 :=
  def_okS (N := N_sees) (ps := [("profile" : Str), ("i" : Str), ("j" : Str)]) (body := b_sees) (j := 5) c.d_sees sc_sees c.fr (fun f fd F => FunD.bindsN F fun _ _ _ _ _ _ us hl => match us, hl with | [_, _, _], _ => by kernel_rfl) (by decide +kernel)
      fun A hr => ⟨⟨(ok_check_indexes c).s hr (by decide), ⟨trivial, ⟨⟨trivial, ⟨trivial, trivial⟩⟩, trivial⟩⟩⟩, ⟨⟨(ok_sees_by c).s hr (by decide), ⟨trivial, ⟨trivial, ⟨trivial, trivial⟩⟩⟩⟩, trivial⟩⟩
def N_joined_profiles : List Str := [("one" : Str), ("other" : Str), ("metres" : Str), ("more" : Str), ("m" : Str), ("height" : Str)]
def b_joined_profiles : Sts Unit :=
      (.cons (.expr (.call ("check_profile" : Str) m_check_profile (.cons (.v 0) .nil)))
      (.cons (.expr (.call ("check_profile" : Str) m_check_profile (.cons (.v 1) .nil)))
      (.cons (.ite (.cmp .Gt (.bin .Sub (.bin .Add (.blt .len (.cons (.v 0) .nil)) (.blt .len (.cons (.v 1) .nil))) (.int 1)) (.glob ("MOST_POINTS" : Str) (.int 100)))
      (.cons (.raise_ ("NoAnswer" : Str))
      .nil)
      .nil)
      (.cons (.par [2, 3] [false, false] false (.cons (.sub (.sub (.v 0) (.neg (.int 1))) (.int 0)) (.cons (.bin .Sub (.sub (.sub (.v 0) (.neg (.int 1))) (.int 1)) (.sub (.sub (.v 1) (.int 0)) (.int 1))) .nil)))
      (.cons (.ret (.bin .Add (.v 0) (.lc (.tup (.cons (.bin .Add (.v 4) (.v 2)) (.cons (.bin .Add (.v 5) (.v 3)) .nil))) (.tup [4, 5]) (.of (.slL (.v 1) (.int 1))) (.bl true) [(("m" : Str), 4), (("height" : Str), 5)])))
      .nil)))))
def m_joined_profiles : List PyData → R PyData := defP N_joined_profiles.length b_joined_profiles
theorem sc_joined_profiles : FnScope N_joined_profiles [("one" : Str), ("other" : Str)] (defScope (top 37)) := ⟨by kernel_rfl, by kernel_rfl, by kernel_rfl, by decide +kernel, by kernel_rfl, by decide +kernel, by decide +kernel⟩
theorem ok_joined_profiles (c : Facts K mg) : FnG P w K mg base 5 "joined_profiles" m_joined_profiles 2 :=
  def_okS (N := N_joined_profiles) (ps := [("one" : Str), ("other" : Str)]) (body := b_joined_profiles) (j := 4) c.d_joined_profiles sc_joined_profiles c.fr (fun f fd F => FunD.bindsN F fun _ _ _ _ _ _ us hl => match us, hl with | [_, _], _ => by kernel_rfl) (by decide +kernel)
      fun A hr => ⟨⟨(ok_check_profile c).s hr (by decide), ⟨trivial, trivial⟩⟩, ⟨⟨(ok_check_profile c).s hr (by decide), ⟨trivial, trivial⟩⟩, ⟨⟨⟨⟨⟨⟨trivial, trivial⟩, ⟨trivial, trivial⟩⟩, trivial⟩, c.g_MOST_POINTS⟩, ⟨c.x_NoAnswer, trivial⟩, trivial⟩, ⟨⟨⟨⟨trivial, trivial⟩, trivial⟩, ⟨⟨⟨⟨trivial, trivial⟩, trivial⟩, ⟨⟨trivial, trivial⟩, trivial⟩⟩, trivial⟩⟩, ⟨⟨trivial, ⟨⟨trivial, trivial⟩, trivial, ⟨⟨trivial, trivial⟩, ⟨⟨trivial, trivial⟩, trivial⟩⟩⟩⟩, trivial⟩⟩⟩⟩⟩
def N_law : List Str := [("script" : Str), ("draws" : Str), ("profile" : Str), ("n" : Str), ("steps" : Str), ("ups" : Str), ("downs" : Str), ("turned" : Str), ("flat" : Str), ("up" : Str), ("down" : Str), ("there" : Str), ("got" : Str), ("cut" : Str), ("one" : Str), ("other" : Str), ("t" : Str), ("thin" : Str), ("k" : Str), ("i" : Str), ("seen" : Str), ("best" : Str), ("j" : Str), ("slope" : Str), ("told" : Str), ("step" : Str), ("m" : Str), ("height" : Str)]
def b_law : Sts (List Int) :=
      (.cons (.set 2 false false (.callS ("_law_profile" : Str) m_law_profile (.cons (.int 99) (.cons (.callS ("_law_pick" : Str) m_law_pick (.cons (.lst (.cons (.int 5) (.cons (.int 900) .nil))) .nil)) (.cons (.callS ("_law_pick" : Str) m_law_pick (.cons (.lst (.cons (.int 5) (.cons (.int 400) (.cons (.int 100000) .nil)))) .nil)) .nil)))))
      (.cons (.par [3, 4] [false, false] false (.cons (.blt .len (.cons (.v 2) .nil)) (.cons (.call ("_law_steps" : Str) m_law_steps (.cons (.v 2) .nil)) .nil)))
      (.cons (.asg [5, 6] false (.call ("ups_downs" : Str) m_ups_downs (.cons (.v 2) .nil)))
      (.cons (.ite (.not_ (.call ("_law_same" : Str) (m_law_same 12) (.cons (.lst (.cons (.call ("is_profile" : Str) m_is_profile (.cons (.v 2) .nil)) (.cons (.bin .Sub (.v 5) (.v 6)) (.cons (.bin .Add (.v 5) (.v 6)) .nil)))) (.cons (.lst (.cons (.bl true) (.cons (.bin .Sub (.sub (.sub (.v 2) (.bin .Sub (.v 3) (.int 1))) (.int 1)) (.sub (.sub (.v 2) (.int 0)) (.int 1))) (.cons (.blt .sum (.cons (.lc (.blt .abs (.cons (.v 25) .nil)) (.nm 25) (.of (.v 4)) (.bl true) [(("step" : Str), 25)]) .nil)) .nil)))) .nil))))
      (.cons (.ret (.bl false))
      .nil)
      .nil)
      (.cons (.set 7 false false (.lc (.tup (.cons (.bin .Sub (.sub (.sub (.v 2) (.bin .Sub (.v 3) (.int 1))) (.int 0)) (.v 26)) (.cons (.v 27) .nil))) (.tup [26, 27]) (.rev (.v 2)) (.bl true) [(("m" : Str), 26), (("height" : Str), 27)]))
      (.cons (.par [8, 9, 10] [false, false, false] false (.cons (.bin .Add (.int 1) (.callS ("_law_take" : Str) m_law_take (.cons (.int 1000) .nil))) (.cons (.bin .Add (.int 1) (.callS ("_law_take" : Str) m_law_take (.cons (.int 1000) .nil))) (.cons (.bin .Add (.int 1) (.callS ("_law_take" : Str) m_law_take (.cons (.int 1000) .nil))) .nil))))
      (.cons (.set 11 false false (.call ("time_for" : Str) m_time_for (.cons (.v 2) (.cons (.v 8) (.cons (.v 9) (.cons (.v 10) .nil))))))
      (.cons (.set 12 false false (.lst (.cons (.call ("ups_downs" : Str) m_ups_downs (.cons (.v 7) .nil)) (.cons (.call ("time_for" : Str) m_time_for (.cons (.v 7) (.cons (.v 8) (.cons (.v 9) (.cons (.v 10) .nil))))) (.cons (.call ("time_back" : Str) m_time_back (.cons (.v 7) (.cons (.v 8) (.cons (.v 9) (.cons (.v 10) .nil))))) (.cons (.call ("time_back" : Str) m_time_back (.cons (.v 2) (.cons (.v 8) (.cons (.v 10) (.cons (.v 9) .nil))))) .nil))))))
      (.cons (.ite (.not_ (.call ("_law_same" : Str) (m_law_same 12) (.cons (.v 12) (.cons (.lst (.cons (.tup (.cons (.v 6) (.cons (.v 5) .nil))) (.cons (.call ("time_back" : Str) m_time_back (.cons (.v 2) (.cons (.v 8) (.cons (.v 9) (.cons (.v 10) .nil))))) (.cons (.v 11) (.cons (.v 11) .nil))))) .nil))))
      (.cons (.ret (.bl false))
      .nil)
      .nil)
      (.cons (.ite (.not_ (.call ("_law_same" : Str) (m_law_same 12) (.cons (.lst (.cons (.call ("takes_time" : Str) m_takes_time (.cons (.v 2) (.cons (.v 8) (.cons (.v 9) (.cons (.v 10) (.cons (.sub (.v 11) (.int 0)) (.cons (.sub (.v 11) (.int 1)) .nil))))))) (.cons (.call ("takes_time" : Str) m_takes_time (.cons (.v 2) (.cons (.v 8) (.cons (.v 9) (.cons (.v 10) (.cons (.bin .Add (.sub (.v 11) (.int 0)) (.int 1)) (.cons (.sub (.v 11) (.int 1)) .nil))))))) .nil))) (.cons (.lst (.cons (.bl true) (.cons (.bl false) .nil))) .nil))))
      (.cons (.ret (.bl false))
      .nil)
      .nil)
      (.cons (.ite (.cmp .Gt (.v 3) (.int 2))
      (.cons (.set 13 false false (.bin .Add (.int 1) (.callS ("_law_take" : Str) m_law_take (.cons (.bin .Sub (.v 3) (.int 2)) .nil))))
      (.cons (.par [14, 15] [false, false] false (.cons (.call ("cut_profile" : Str) m_cut_profile (.cons (.v 2) (.cons (.int 0) (.cons (.v 13) .nil)))) (.cons (.call ("cut_profile" : Str) m_cut_profile (.cons (.v 2) (.cons (.v 13) (.cons (.bin .Sub (.v 3) (.int 1)) .nil)))) .nil)))
      (.cons (.ite (.not_ (.call ("_law_same" : Str) (m_law_same 12) (.cons (.lst (.cons (.call ("joined_profiles" : Str) m_joined_profiles (.cons (.v 14) (.cons (.v 15) .nil))) (.cons (.v 14) (.cons (.sub (.v 15) (.int 0)) .nil)))) (.cons (.lst (.cons (.v 2) (.cons (.slH (.v 2) (.bin .Add (.v 13) (.int 1))) (.cons (.tup (.cons (.int 0) (.cons (.sub (.sub (.v 2) (.v 13)) (.int 1)) .nil))) .nil)))) .nil))))
      (.cons (.ret (.bl false))
      .nil)
      .nil)
      (.cons (.ite (.not_ (.call ("_law_same" : Str) (m_law_same 12) (.cons (.call ("_law_plus" : Str) m_law_plus (.cons (.call ("time_for" : Str) m_time_for (.cons (.v 14) (.cons (.v 8) (.cons (.v 9) (.cons (.v 10) .nil))))) (.cons (.call ("time_for" : Str) m_time_for (.cons (.v 15) (.cons (.v 8) (.cons (.v 9) (.cons (.v 10) .nil))))) .nil))) (.cons (.v 11) .nil))))
      (.cons (.ret (.bl false))
      .nil)
      .nil)
      .nil))))
      .nil)
      (.cons (.for_ [] (.nm 16) (.of (.lst (.cons (.callS ("_law_take" : Str) m_law_take (.cons (.int 9) .nil)) (.cons (.callS ("_law_take" : Str) m_law_take (.cons (.int 400) .nil)) (.cons (.callS ("_law_take" : Str) m_law_take (.cons (.int 100001) .nil)) .nil)))))
      (.cons (.set 17 false false (.call ("thinned_profile" : Str) m_thinned_profile (.cons (.v 2) (.cons (.v 16) .nil))))
      (.cons (.ite (.or_ (.cmp .NotEq (.sub (.v 17) (.int 0)) (.sub (.v 2) (.int 0))) (.or_ (.cmp .NotEq (.sub (.v 17) (.bin .Sub (.blt .len (.cons (.v 17) .nil)) (.int 1))) (.sub (.v 2) (.bin .Sub (.v 3) (.int 1)))) (.one (.cmp .NotEq (.lc (.v 14) (.nm 14) (.of (.v 17)) (.cmp .NotIn (.v 14) (.v 2)) [(("one" : Str), 14)]) (.lst .nil)))))
      (.cons (.ret (.bl false))
      .nil)
      .nil)
      (.cons (.ite (.or_ (.cmp .Gt (.sub (.call ("ups_downs" : Str) m_ups_downs (.cons (.v 17) .nil)) (.int 0)) (.v 5)) (.one (.cmp .IsNot (.call ("takes_thinned" : Str) m_takes_thinned (.cons (.v 2) (.cons (.v 16) (.cons (.blt .list_ (.cons (.v 17) .nil)) .nil)))) (.bl true))))
      (.cons (.ret (.bl false))
      .nil)
      .nil)
      (.cons (.ite (.or_ (.cmp .NotEq (.lc (.v 18) (.nm 18) (.range2 (.int 1) (.bin .Sub (.blt .len (.cons (.v 17) .nil)) (.int 1))) (.cmp .Lt (.blt .abs (.cons (.bin .Sub (.sub (.sub (.v 17) (.v 18)) (.int 1)) (.sub (.sub (.v 17) (.bin .Sub (.v 18) (.int 1))) (.int 1))) .nil)) (.v 16)) [(("k" : Str), 18)]) (.lst .nil)) (.one (.and_ (.cmp .Gt (.blt .len (.cons (.v 17) .nil)) (.int 2)) (.one (.cmp .IsNot (.call ("takes_thinned" : Str) m_takes_thinned (.cons (.v 2) (.cons (.v 16) (.cons (.bin .Add (.slH (.v 17) (.int 1)) (.slL (.v 17) (.int 2))) .nil)))) (.bl false))))))
      (.cons (.ret (.bl false))
      .nil)
      .nil)
      (.cons (.for_ [] (.nm 18) (.range2 (.int 1) (.blt .len (.cons (.v 17) .nil)))
      (.cons (.ite (.cmp .NotEq (.lc (.v 26) (.tup [26, 27]) (.of (.v 2)) (.and_ (.chain .Lt .Lt (.sub (.sub (.v 17) (.bin .Sub (.v 18) (.int 1))) (.int 0)) (.v 26) (.sub (.sub (.v 17) (.v 18)) (.int 0))) (.one (.cmp .GtE (.blt .abs (.cons (.bin .Sub (.v 27) (.sub (.sub (.v 17) (.bin .Sub (.v 18) (.int 1))) (.int 1))) .nil)) (.v 16)))) [(("m" : Str), 26), (("height" : Str), 27)]) (.lst .nil))
      (.cons (.ret (.bl false))
      .nil)
      .nil)
      .nil))
      .nil))))))
      (.cons (.for_ [] (.nm 19) (.of (.lst (.cons (.int 0) (.cons (.bin .Sub (.v 3) (.int 1)) (.cons (.callS ("_law_take" : Str) m_law_take (.cons (.v 3) .nil)) .nil)))))
      (.cons (.par [20, 21] [true, false] false (.cons (.lst .nil) (.cons .non .nil)))
      (.cons (.for_ [20] (.nm 22) (.range2 (.bin .Add (.v 19) (.int 1)) (.v 3))
      (.cons (.set 23 false false (.call ("_law_ratio" : Str) m_law_ratio (.cons (.bin .Sub (.sub (.sub (.v 2) (.v 22)) (.int 1)) (.sub (.sub (.v 2) (.v 19)) (.int 1))) (.cons (.bin .Sub (.sub (.sub (.v 2) (.v 22)) (.int 0)) (.sub (.sub (.v 2) (.v 19)) (.int 0))) .nil))))
      (.cons (.ite (.or_ (.cmp .Is (.v 21) .non) (.one (.call ("_law_is_at_most" : Str) m_law_is_at_most (.cons (.v 21) (.cons (.v 23) .nil)))))
      (.cons (.app 20 false (.v 22))
      (.cons (.set 21 false false (.v 23))
      .nil))
      .nil)
      .nil)))
      (.cons (.set 24 false false (.call ("seen_points" : Str) m_seen_points (.cons (.v 2) (.cons (.v 19) .nil))))
      (.cons (.ite (.or_ (.cmp .NotEq (.lc (.v 22) (.nm 22) (.of (.v 24)) (.cmp .Gt (.v 22) (.v 19)) [(("j" : Str), 22)]) (.v 20)) (.or_ (.cmp .NotEq (.lc (.v 22) (.nm 22) (.of (.v 24)) (.cmp .NotIn (.v 19) (.call ("seen_points" : Str) m_seen_points (.cons (.v 2) (.cons (.v 22) .nil)))) [(("j" : Str), 22)]) (.lst .nil)) (.one (.cmp .IsNot (.call ("sees" : Str) m_sees (.cons (.v 2) (.cons (.v 19) (.cons (.v 19) .nil)))) (.bl true)))))
      (.cons (.ret (.bl false))
      .nil)
      .nil)
      .nil)))))
      (.cons (.ret (.callS ("_law_are_tops_due" : Str) m_law_are_tops_due (.cons (.v 2) (.cons (.v 4) (.cons (.v 3) .nil)))))
      .nil))))))))))))))
theorem ok_draws (c : Facts K mg) (sem : ∀ ns : List Int, ns.length ≤ 63 → ∃ st : List Int, drawsR N_draws.length cell_draws b_draws1 b_draws2 b_draws3 ns = .ok (.ret (.list (st.map PyData.int)), ()) ∧ st.length ≤ sizeLine) :
    ∃ f fd, FnOk P w K mg base (L2.CX P w) 1 f fd [("script" : Str)] (spDr K) ∧ mg "_law_draws" = some (.ref f) ∧ PySem.W.keepIn K (.ref f) = true ∧ Binds K fd [("script" : Str)] [] :=
  draws_okB (N := N_draws) (p1 := b_draws1) (p2 := b_draws2) (p3 := b_draws3) (cell := cell_draws) (l1 := l1_draws) (li := li_draws) c.d_law_draws ⟨by kernel_rfl, by kernel_rfl, by kernel_rfl, by decide +kernel, by kernel_rfl, by decide +kernel, by decide +kernel⟩ c.fr (fun f fd F => FunD.bindsN F fun _ _ _ _ _ _ us hl => match us, hl with | [_], _ => by kernel_rfl) (by decide +kernel)
      (fun A hr a => ⟨⟨trivial, ⟨trivial, trivial⟩⟩,
      ⟨⟨⟨trivial, trivial⟩, trivial⟩, ⟨⟨⟨⟨⟨⟨trivial, trivial⟩, trivial⟩, trivial⟩, trivial⟩, trivial⟩, ⟨⟨⟨trivial, ⟨trivial, trivial⟩⟩, ⟨⟨⟨trivial, trivial⟩, trivial⟩, ⟨⟨⟨trivial, trivial⟩, trivial⟩, ⟨trivial, trivial⟩⟩⟩, trivial⟩, ⟨⟨trivial, ⟨⟨⟨trivial, trivial⟩, ⟨⟨⟨trivial, trivial⟩, trivial⟩, ⟨⟨trivial, trivial⟩, trivial⟩⟩, trivial⟩, trivial⟩⟩, trivial⟩⟩⟩⟩,
      ⟨⟨trivial, ⟨⟨⟨⟨⟨trivial, trivial⟩, trivial⟩, trivial⟩, trivial⟩, ⟨⟨trivial, trivial⟩, trivial⟩⟩⟩, ⟨trivial, trivial⟩⟩⟩) sem
theorem ok_law (c : Facts K mg) {f : Addr} {fd : FuncData} (F : FnD K "law" (defArgs (top 54)) (defBody (top 54)) (defScope (top 54)) f fd)
    (sd : ∀ ns : List Int, ns.length ≤ 63 → ∃ st : List Int, drawsR N_draws.length cell_draws b_draws1 b_draws2 b_draws3 ns = .ok (.ret (.list (st.map PyData.int)), ()) ∧ st.length ≤ sizeLine)
    (sem : ∀ st : List Int, ∃ st', runs b_law (List.replicate N_law.length none) st = .ok (.ret (.bool true), st')) : FnOk P w K mg base (L2.CX P w) 14 f fd [("script" : Str)] (spLaw K) :=
  law_okB (N := N_law) (body := b_law) (j := 13) F ⟨by kernel_rfl, by kernel_rfl, by kernel_rfl, by decide +kernel, by kernel_rfl, by decide +kernel, by decide +kernel⟩ c.fr (ok_draws c sd) (by decide) (by decide +kernel)
      (fun A hr a => ⟨⟨(ok_law_profile c).s hr (by decide) 1 a, ⟨trivial, ⟨⟨(ok_law_pick c).s hr (by decide) 1 a, ⟨⟨trivial, ⟨trivial, trivial⟩⟩, trivial⟩⟩, ⟨⟨(ok_law_pick c).s hr (by decide) 1 a, ⟨⟨trivial, ⟨trivial, ⟨trivial, trivial⟩⟩⟩, trivial⟩⟩, trivial⟩⟩⟩⟩, ⟨⟨⟨trivial, trivial⟩, ⟨⟨(ok_law_steps c).s hr (by decide), ⟨trivial, trivial⟩⟩, trivial⟩⟩, ⟨⟨(ok_ups_downs c).s hr (by decide), ⟨trivial, trivial⟩⟩, ⟨⟨⟨(ok_law_same c 12).s hr (by decide), ⟨⟨⟨(ok_is_profile c).s hr (by decide), ⟨trivial, trivial⟩⟩, ⟨⟨trivial, trivial⟩, ⟨⟨trivial, trivial⟩, trivial⟩⟩⟩, ⟨⟨trivial, ⟨⟨⟨⟨trivial, ⟨trivial, trivial⟩⟩, trivial⟩, ⟨⟨trivial, trivial⟩, trivial⟩⟩, ⟨⟨⟨trivial, trivial, ⟨trivial, trivial⟩⟩, trivial⟩, trivial⟩⟩⟩, trivial⟩⟩⟩, ⟨trivial, trivial⟩, trivial⟩, ⟨⟨trivial, trivial, ⟨⟨⟨⟨trivial, ⟨trivial, trivial⟩⟩, trivial⟩, trivial⟩, ⟨trivial, trivial⟩⟩⟩, ⟨⟨⟨trivial, ⟨(ok_law_take c).s hr (by decide) 1 a, ⟨trivial, trivial⟩⟩⟩, ⟨⟨trivial, ⟨(ok_law_take c).s hr (by decide) 1 a, ⟨trivial, trivial⟩⟩⟩, ⟨⟨trivial, ⟨(ok_law_take c).s hr (by decide) 1 a, ⟨trivial, trivial⟩⟩⟩, trivial⟩⟩⟩, ⟨⟨(ok_time_for c).s hr (by decide), ⟨trivial, ⟨trivial, ⟨trivial, ⟨trivial, trivial⟩⟩⟩⟩⟩, ⟨⟨⟨(ok_ups_downs c).s hr (by decide), ⟨trivial, trivial⟩⟩, ⟨⟨(ok_time_for c).s hr (by decide), ⟨trivial, ⟨trivial, ⟨trivial, ⟨trivial, trivial⟩⟩⟩⟩⟩, ⟨⟨(ok_time_back c).s hr (by decide), ⟨trivial, ⟨trivial, ⟨trivial, ⟨trivial, trivial⟩⟩⟩⟩⟩, ⟨⟨(ok_time_back c).s hr (by decide), ⟨trivial, ⟨trivial, ⟨trivial, ⟨trivial, trivial⟩⟩⟩⟩⟩, trivial⟩⟩⟩⟩, ⟨⟨⟨(ok_law_same c 12).s hr (by decide), ⟨trivial, ⟨⟨⟨trivial, ⟨trivial, trivial⟩⟩, ⟨⟨(ok_time_back c).s hr (by decide), ⟨trivial, ⟨trivial, ⟨trivial, ⟨trivial, trivial⟩⟩⟩⟩⟩, ⟨trivial, ⟨trivial, trivial⟩⟩⟩⟩, trivial⟩⟩⟩, ⟨trivial, trivial⟩, trivial⟩, ⟨⟨⟨(ok_law_same c 12).s hr (by decide), ⟨⟨⟨(ok_takes_time c).s hr (by decide), ⟨trivial, ⟨trivial, ⟨trivial, ⟨trivial, ⟨⟨trivial, trivial⟩, ⟨⟨trivial, trivial⟩, trivial⟩⟩⟩⟩⟩⟩⟩, ⟨⟨(ok_takes_time c).s hr (by decide), ⟨trivial, ⟨trivial, ⟨trivial, ⟨trivial, ⟨⟨⟨trivial, trivial⟩, trivial⟩, ⟨⟨trivial, trivial⟩, trivial⟩⟩⟩⟩⟩⟩⟩, trivial⟩⟩, ⟨⟨trivial, ⟨trivial, trivial⟩⟩, trivial⟩⟩⟩, ⟨trivial, trivial⟩, trivial⟩, ⟨⟨⟨trivial, trivial⟩, ⟨⟨trivial, ⟨(ok_law_take c).s hr (by decide) 1 a, ⟨⟨trivial, trivial⟩, trivial⟩⟩⟩, ⟨⟨⟨(ok_cut_profile c).s hr (by decide), ⟨trivial, ⟨trivial, ⟨trivial, trivial⟩⟩⟩⟩, ⟨⟨(ok_cut_profile c).s hr (by decide), ⟨trivial, ⟨trivial, ⟨⟨trivial, trivial⟩, trivial⟩⟩⟩⟩, trivial⟩⟩, ⟨⟨⟨(ok_law_same c 12).s hr (by decide), ⟨⟨⟨(ok_joined_profiles c).s hr (by decide), ⟨trivial, ⟨trivial, trivial⟩⟩⟩, ⟨trivial, ⟨⟨trivial, trivial⟩, trivial⟩⟩⟩, ⟨⟨trivial, ⟨⟨trivial, ⟨trivial, trivial⟩⟩, ⟨⟨trivial, ⟨⟨⟨trivial, trivial⟩, trivial⟩, trivial⟩⟩, trivial⟩⟩⟩, trivial⟩⟩⟩, ⟨trivial, trivial⟩, trivial⟩, ⟨⟨⟨(ok_law_same c 12).s hr (by decide), ⟨⟨(ok_law_plus c).s hr (by decide), ⟨⟨(ok_time_for c).s hr (by decide), ⟨trivial, ⟨trivial, ⟨trivial, ⟨trivial, trivial⟩⟩⟩⟩⟩, ⟨⟨(ok_time_for c).s hr (by decide), ⟨trivial, ⟨trivial, ⟨trivial, ⟨trivial, trivial⟩⟩⟩⟩⟩, trivial⟩⟩⟩, ⟨trivial, trivial⟩⟩⟩, ⟨trivial, trivial⟩, trivial⟩, trivial⟩⟩⟩⟩, trivial⟩, ⟨⟨⟨⟨(ok_law_take c).s hr (by decide) 1 a, ⟨trivial, trivial⟩⟩, ⟨⟨(ok_law_take c).s hr (by decide) 1 a, ⟨trivial, trivial⟩⟩, ⟨⟨(ok_law_take c).s hr (by decide) 1 a, ⟨trivial, trivial⟩⟩, trivial⟩⟩⟩, ⟨⟨(ok_thinned_profile c).s hr (by decide), ⟨trivial, ⟨trivial, trivial⟩⟩⟩, ⟨⟨⟨⟨⟨trivial, trivial⟩, ⟨trivial, trivial⟩⟩, ⟨⟨⟨trivial, ⟨⟨trivial, trivial⟩, trivial⟩⟩, ⟨trivial, ⟨trivial, trivial⟩⟩⟩, ⟨⟨trivial, ⟨trivial, trivial⟩, trivial⟩, trivial⟩⟩⟩, ⟨trivial, trivial⟩, trivial⟩, ⟨⟨⟨⟨⟨⟨(ok_ups_downs c).s hr (by decide), ⟨trivial, trivial⟩⟩, trivial⟩, trivial⟩, ⟨⟨(ok_takes_thinned c).s hr (by decide), ⟨trivial, ⟨trivial, ⟨⟨trivial, trivial⟩, trivial⟩⟩⟩⟩, trivial⟩⟩, ⟨trivial, trivial⟩, trivial⟩, ⟨⟨⟨⟨⟨⟨trivial, ⟨⟨trivial, trivial⟩, trivial⟩⟩, ⟨⟨⟨⟨⟨trivial, trivial⟩, trivial⟩, ⟨⟨trivial, ⟨trivial, trivial⟩⟩, trivial⟩⟩, trivial⟩, trivial⟩, trivial⟩, trivial⟩, ⟨⟨⟨trivial, trivial⟩, trivial⟩, ⟨⟨(ok_takes_thinned c).s hr (by decide), ⟨trivial, ⟨trivial, ⟨⟨⟨trivial, trivial⟩, ⟨trivial, trivial⟩⟩, trivial⟩⟩⟩⟩, trivial⟩⟩⟩, ⟨trivial, trivial⟩, trivial⟩, ⟨⟨⟨trivial, ⟨trivial, trivial⟩⟩, ⟨⟨⟨⟨trivial, ⟨⟨⟨⟨trivial, ⟨trivial, trivial⟩⟩, trivial⟩, trivial, ⟨⟨trivial, trivial⟩, trivial⟩⟩, ⟨⟨⟨trivial, ⟨⟨trivial, ⟨trivial, trivial⟩⟩, trivial⟩⟩, trivial⟩, trivial⟩⟩, trivial⟩, trivial⟩, ⟨trivial, trivial⟩, trivial⟩, trivial⟩⟩, trivial⟩⟩⟩⟩⟩⟩, ⟨⟨⟨trivial, ⟨⟨trivial, trivial⟩, ⟨⟨(ok_law_take c).s hr (by decide) 1 a, ⟨trivial, trivial⟩⟩, trivial⟩⟩⟩, ⟨⟨trivial, ⟨trivial, trivial⟩⟩, ⟨⟨⟨⟨trivial, trivial⟩, trivial⟩, ⟨⟨(ok_law_ratio c).s hr (by decide), ⟨⟨⟨⟨trivial, trivial⟩, trivial⟩, ⟨⟨trivial, trivial⟩, trivial⟩⟩, ⟨⟨⟨⟨trivial, trivial⟩, trivial⟩, ⟨⟨trivial, trivial⟩, trivial⟩⟩, trivial⟩⟩⟩, ⟨⟨⟨⟨trivial, trivial⟩, ⟨(ok_law_is_at_most c).s hr (by decide), ⟨trivial, ⟨trivial, trivial⟩⟩⟩⟩, ⟨trivial, ⟨trivial, trivial⟩⟩, trivial⟩, trivial⟩⟩⟩, ⟨⟨(ok_seen_points c).s hr (by decide), ⟨trivial, ⟨trivial, trivial⟩⟩⟩, ⟨⟨⟨⟨⟨trivial, ⟨trivial, trivial⟩, trivial⟩, trivial⟩, ⟨⟨⟨trivial, ⟨trivial, ⟨(ok_seen_points c).s hr (by decide), ⟨trivial, ⟨trivial, trivial⟩⟩⟩⟩, trivial⟩, trivial⟩, ⟨⟨(ok_sees c).s hr (by decide), ⟨trivial, ⟨trivial, ⟨trivial, trivial⟩⟩⟩⟩, trivial⟩⟩⟩, ⟨trivial, trivial⟩, trivial⟩, trivial⟩⟩⟩⟩⟩, ⟨⟨(ok_law_are_tops_due c).s hr (by decide) 1 a, ⟨trivial, ⟨trivial, ⟨trivial, trivial⟩⟩⟩⟩, trivial⟩⟩⟩⟩⟩⟩⟩⟩⟩⟩⟩⟩⟩⟩) sem
end
end K04

set_option Elab.async false
set_option linter.all false
set_option maxRecDepth 100000
set_option maxHeartbeats 0
namespace K04
open PySem PySem.Spec PyProof.Rows L2 Mir
def fa : List He.Fa := [.free "len", .free "tuple", .free "list", .free "sorted", .free "all", .free "any", .free "int", .free "sum", .free "min", .free "max", .free "abs", .free "str", .free "isinstance", .free "bool", .free "dict", .free "range", .free "zip", .free "enumerate", .free "reversed", .free "set", .free "repr", .free "divmod", .glo "_law_draws", .glo "_law_take", .glo "_law_profile", .glo "check", .glo "are_ascending", .glo "is_integer", .glo "is_height", .glo "is_profile", .glo "check_profile", .glo "ups_by", .glo "ups_downs", .glo "is_within", .glo "check_speeds", .glo "shared", .glo "ratio", .glo "time_by", .glo "time_for", .glo "steepest", .glo "highest", .glo "levels_of", .glo "summits", .glo "_law_ratio", .glo "height_by", .glo "height_at", .glo "_law_is_at_most", .glo "_law_are_tops_due", .glo "_law_pick", .glo "_law_steps", .glo "_law_same", .glo "time_back", .glo "thinned_profile", .glo "check_there", .glo "check_indexes", .glo "sees_by", .glo "seen_points", .glo "cut_profile", .glo "are_told_pairs", .glo "need_profile", .glo "takes_time", .glo "_law_plus", .glo "takes_thinned", .glo "sees", .glo "joined_profiles", .glo "law", .glo "NoAnswer", .exc "NoAnswer", .glo "NotRight", .exc "NotRight", .glo "NotThere", .exc "NotThere", .int "MOST_POINTS" 100, .int "MOST_SPEED" 1000, .int "MOST_THINNED" 100000]
def fn : List He.DefD := [⟨("_law_draws", none), "_law_draws", "_law_draws", defArgs (top 44), defBody (top 44), defScope (top 44), [], []⟩,
  ⟨("_law_take", none), "_law_take", "_law_take", defArgs (top 45), defBody (top 45), defScope (top 45), [], []⟩,
  ⟨("_law_profile", none), "_law_profile", "_law_profile", defArgs (top 51), defBody (top 51), defScope (top 51), [], []⟩,
  ⟨("check", none), "check", "check", defArgs (top 8), defBody (top 8), defScope (top 8), [], []⟩,
  ⟨("are_ascending", none), "are_ascending", "are_ascending", defArgs (top 7), defBody (top 7), defScope (top 7), [], []⟩,
  ⟨("is_integer", none), "is_integer", "is_integer", defArgs (top 5), defBody (top 5), defScope (top 5), [], []⟩,
  ⟨("is_height", none), "is_height", "is_height", defArgs (top 16), defBody (top 16), defScope (top 16), [], []⟩,
  ⟨("is_profile", none), "is_profile", "is_profile", defArgs (top 17), defBody (top 17), defScope (top 17), [], []⟩,
  ⟨("check_profile", none), "check_profile", "check_profile", defArgs (top 18), defBody (top 18), defScope (top 18), [], []⟩,
  ⟨("ups_by", none), "ups_by", "ups_by", defArgs (top 19), defBody (top 19), defScope (top 19), [], []⟩,
  ⟨("ups_downs", none), "ups_downs", "ups_downs", defArgs (top 20), defBody (top 20), defScope (top 20), [], []⟩,
  ⟨("is_within", none), "is_within", "is_within", defArgs (top 6), defBody (top 6), defScope (top 6), [], []⟩,
  ⟨("check_speeds", none), "check_speeds", "check_speeds", defArgs (top 24), defBody (top 24), defScope (top 24), [], []⟩,
  ⟨("shared", none), "shared", "shared", defArgs (top 10), defBody (top 10), defScope (top 10), [], []⟩,
  ⟨("ratio", none), "ratio", "ratio", defArgs (top 11), defBody (top 11), defScope (top 11), [], []⟩,
  ⟨("time_by", none), "time_by", "time_by", defArgs (top 25), defBody (top 25), defScope (top 25), [], []⟩,
  ⟨("time_for", none), "time_for", "time_for", defArgs (top 26), defBody (top 26), defScope (top 26), [], []⟩,
  ⟨("steepest", none), "steepest", "steepest", defArgs (top 23), defBody (top 23), defScope (top 23), [], []⟩,
  ⟨("highest", none), "highest", "highest", defArgs (top 35), defBody (top 35), defScope (top 35), [], []⟩,
  ⟨("levels_of", none), "levels_of", "levels_of", defArgs (top 33), defBody (top 33), defScope (top 33), [], []⟩,
  ⟨("summits", none), "summits", "summits", defArgs (top 34), defBody (top 34), defScope (top 34), [], []⟩,
  ⟨("_law_ratio", none), "_law_ratio", "_law_ratio", defArgs (top 48), defBody (top 48), defScope (top 48), [], []⟩,
  ⟨("height_by", none), "height_by", "height_by", defArgs (top 21), defBody (top 21), defScope (top 21), [], []⟩,
  ⟨("height_at", none), "height_at", "height_at", defArgs (top 22), defBody (top 22), defScope (top 22), [], []⟩,
  ⟨("_law_is_at_most", none), "_law_is_at_most", "_law_is_at_most", defArgs (top 50), defBody (top 50), defScope (top 50), [], []⟩,
  ⟨("_law_are_tops_due", none), "_law_are_tops_due", "_law_are_tops_due", defArgs (top 53), defBody (top 53), defScope (top 53), [], []⟩,
  ⟨("_law_pick", none), "_law_pick", "_law_pick", defArgs (top 46), defBody (top 46), defScope (top 46), [], []⟩,
  ⟨("_law_steps", none), "_law_steps", "_law_steps", defArgs (top 52), defBody (top 52), defScope (top 52), [], []⟩,
  ⟨("_law_same", none), "_law_same", "_law_same", defArgs (top 47), defBody (top 47), defScope (top 47), [], []⟩,
  ⟨("time_back", none), "time_back", "time_back", defArgs (top 27), defBody (top 27), defScope (top 27), [], []⟩,
  ⟨("thinned_profile", none), "thinned_profile", "thinned_profile", defArgs (top 28), defBody (top 28), defScope (top 28), [], []⟩,
  ⟨("check_there", none), "check_there", "check_there", defArgs (top 9), defBody (top 9), defScope (top 9), [], []⟩,
  ⟨("check_indexes", none), "check_indexes", "check_indexes", defArgs (top 29), defBody (top 29), defScope (top 29), [], []⟩,
  ⟨("sees_by", none), "sees_by", "sees_by", defArgs (top 30), defBody (top 30), defScope (top 30), [], []⟩,
  ⟨("seen_points", none), "seen_points", "seen_points", defArgs (top 32), defBody (top 32), defScope (top 32), [], []⟩,
  ⟨("cut_profile", none), "cut_profile", "cut_profile", defArgs (top 36), defBody (top 36), defScope (top 36), [], []⟩,
  ⟨("are_told_pairs", none), "are_told_pairs", "are_told_pairs", defArgs (top 39), defBody (top 39), defScope (top 39), [], []⟩,
  ⟨("need_profile", none), "need_profile", "need_profile", defArgs (top 40), defBody (top 40), defScope (top 40), [], []⟩,
  ⟨("takes_time", none), "takes_time", "takes_time", defArgs (top 41), defBody (top 41), defScope (top 41), [], []⟩,
  ⟨("_law_plus", none), "_law_plus", "_law_plus", defArgs (top 49), defBody (top 49), defScope (top 49), [], []⟩,
  ⟨("takes_thinned", none), "takes_thinned", "takes_thinned", defArgs (top 42), defBody (top 42), defScope (top 42), [], []⟩,
  ⟨("sees", none), "sees", "sees", defArgs (top 31), defBody (top 31), defScope (top 31), [], []⟩,
  ⟨("joined_profiles", none), "joined_profiles", "joined_profiles", defArgs (top 37), defBody (top 37), defScope (top 37), [], []⟩,
  ⟨("law", none), "law", "law", defArgs (top 54), defBody (top 54), defScope (top 54), [], []⟩]
def ex (K : PySem.W.Frag) : Bool := true
theorem facts {K : PySem.W.Frag} {h : Heap} {mg : Str → Option Value} (X : K.In h) (G : h.Ns mainGlobals mg) (c : He.SaysD fa fn K) (he : ex K = true) : Facts K mg where
  fr := fun x hx => by
    simp only [bltNames, List.mem_cons, List.not_mem_nil, or_false] at hx
    rcases hx with rfl | rfl | rfl | rfl | rfl | rfl | rfl | rfl | rfl | rfl | rfl | rfl | rfl | rfl | rfl | rfl | rfl | rfl | rfl | rfl | rfl | rfl
    · exact He.free_ok X G (c.fact 0 (f := .free "len") rfl)
    · exact He.free_ok X G (c.fact 1 (f := .free "tuple") rfl)
    · exact He.free_ok X G (c.fact 2 (f := .free "list") rfl)
    · exact He.free_ok X G (c.fact 3 (f := .free "sorted") rfl)
    · exact He.free_ok X G (c.fact 4 (f := .free "all") rfl)
    · exact He.free_ok X G (c.fact 5 (f := .free "any") rfl)
    · exact He.free_ok X G (c.fact 6 (f := .free "int") rfl)
    · exact He.free_ok X G (c.fact 7 (f := .free "sum") rfl)
    · exact He.free_ok X G (c.fact 8 (f := .free "min") rfl)
    · exact He.free_ok X G (c.fact 9 (f := .free "max") rfl)
    · exact He.free_ok X G (c.fact 10 (f := .free "abs") rfl)
    · exact He.free_ok X G (c.fact 11 (f := .free "str") rfl)
    · exact He.free_ok X G (c.fact 12 (f := .free "isinstance") rfl)
    · exact He.free_ok X G (c.fact 13 (f := .free "bool") rfl)
    · exact He.free_ok X G (c.fact 14 (f := .free "dict") rfl)
    · exact He.free_ok X G (c.fact 15 (f := .free "range") rfl)
    · exact He.free_ok X G (c.fact 16 (f := .free "zip") rfl)
    · exact He.free_ok X G (c.fact 17 (f := .free "enumerate") rfl)
    · exact He.free_ok X G (c.fact 18 (f := .free "reversed") rfl)
    · exact He.free_ok X G (c.fact 19 (f := .free "set") rfl)
    · exact He.free_ok X G (c.fact 20 (f := .free "repr") rfl)
    · exact He.free_ok X G (c.fact 21 (f := .free "divmod") rfl)
  d_law_draws := by
    obtain ⟨fd, F⟩ := c.def_ 0 rfl
    exact ⟨_, fd, F, He.glo_ok X G (c.fact 22 (f := .glo "_law_draws") rfl)⟩
  d_law_take := by
    obtain ⟨fd, F⟩ := c.def_ 1 rfl
    exact ⟨_, fd, F, He.glo_ok X G (c.fact 23 (f := .glo "_law_take") rfl)⟩
  d_law_profile := by
    obtain ⟨fd, F⟩ := c.def_ 2 rfl
    exact ⟨_, fd, F, He.glo_ok X G (c.fact 24 (f := .glo "_law_profile") rfl)⟩
  d_check := by
    obtain ⟨fd, F⟩ := c.def_ 3 rfl
    exact ⟨_, fd, F, He.glo_ok X G (c.fact 25 (f := .glo "check") rfl)⟩
  d_are_ascending := by
    obtain ⟨fd, F⟩ := c.def_ 4 rfl
    exact ⟨_, fd, F, He.glo_ok X G (c.fact 26 (f := .glo "are_ascending") rfl)⟩
  d_is_integer := by
    obtain ⟨fd, F⟩ := c.def_ 5 rfl
    exact ⟨_, fd, F, He.glo_ok X G (c.fact 27 (f := .glo "is_integer") rfl)⟩
  d_is_height := by
    obtain ⟨fd, F⟩ := c.def_ 6 rfl
    exact ⟨_, fd, F, He.glo_ok X G (c.fact 28 (f := .glo "is_height") rfl)⟩
  d_is_profile := by
    obtain ⟨fd, F⟩ := c.def_ 7 rfl
    exact ⟨_, fd, F, He.glo_ok X G (c.fact 29 (f := .glo "is_profile") rfl)⟩
  d_check_profile := by
    obtain ⟨fd, F⟩ := c.def_ 8 rfl
    exact ⟨_, fd, F, He.glo_ok X G (c.fact 30 (f := .glo "check_profile") rfl)⟩
  d_ups_by := by
    obtain ⟨fd, F⟩ := c.def_ 9 rfl
    exact ⟨_, fd, F, He.glo_ok X G (c.fact 31 (f := .glo "ups_by") rfl)⟩
  d_ups_downs := by
    obtain ⟨fd, F⟩ := c.def_ 10 rfl
    exact ⟨_, fd, F, He.glo_ok X G (c.fact 32 (f := .glo "ups_downs") rfl)⟩
  d_is_within := by
    obtain ⟨fd, F⟩ := c.def_ 11 rfl
    exact ⟨_, fd, F, He.glo_ok X G (c.fact 33 (f := .glo "is_within") rfl)⟩
  d_check_speeds := by
    obtain ⟨fd, F⟩ := c.def_ 12 rfl
    exact ⟨_, fd, F, He.glo_ok X G (c.fact 34 (f := .glo "check_speeds") rfl)⟩
  d_shared := by
    obtain ⟨fd, F⟩ := c.def_ 13 rfl
    exact ⟨_, fd, F, He.glo_ok X G (c.fact 35 (f := .glo "shared") rfl)⟩
  d_ratio := by
    obtain ⟨fd, F⟩ := c.def_ 14 rfl
    exact ⟨_, fd, F, He.glo_ok X G (c.fact 36 (f := .glo "ratio") rfl)⟩
  d_time_by := by
    obtain ⟨fd, F⟩ := c.def_ 15 rfl
    exact ⟨_, fd, F, He.glo_ok X G (c.fact 37 (f := .glo "time_by") rfl)⟩
  d_time_for := by
    obtain ⟨fd, F⟩ := c.def_ 16 rfl
    exact ⟨_, fd, F, He.glo_ok X G (c.fact 38 (f := .glo "time_for") rfl)⟩
  d_steepest := by
    obtain ⟨fd, F⟩ := c.def_ 17 rfl
    exact ⟨_, fd, F, He.glo_ok X G (c.fact 39 (f := .glo "steepest") rfl)⟩
  d_highest := by
    obtain ⟨fd, F⟩ := c.def_ 18 rfl
    exact ⟨_, fd, F, He.glo_ok X G (c.fact 40 (f := .glo "highest") rfl)⟩
  d_levels_of := by
    obtain ⟨fd, F⟩ := c.def_ 19 rfl
    exact ⟨_, fd, F, He.glo_ok X G (c.fact 41 (f := .glo "levels_of") rfl)⟩
  d_summits := by
    obtain ⟨fd, F⟩ := c.def_ 20 rfl
    exact ⟨_, fd, F, He.glo_ok X G (c.fact 42 (f := .glo "summits") rfl)⟩
  d_law_ratio := by
    obtain ⟨fd, F⟩ := c.def_ 21 rfl
    exact ⟨_, fd, F, He.glo_ok X G (c.fact 43 (f := .glo "_law_ratio") rfl)⟩
  d_height_by := by
    obtain ⟨fd, F⟩ := c.def_ 22 rfl
    exact ⟨_, fd, F, He.glo_ok X G (c.fact 44 (f := .glo "height_by") rfl)⟩
  d_height_at := by
    obtain ⟨fd, F⟩ := c.def_ 23 rfl
    exact ⟨_, fd, F, He.glo_ok X G (c.fact 45 (f := .glo "height_at") rfl)⟩
  d_law_is_at_most := by
    obtain ⟨fd, F⟩ := c.def_ 24 rfl
    exact ⟨_, fd, F, He.glo_ok X G (c.fact 46 (f := .glo "_law_is_at_most") rfl)⟩
  d_law_are_tops_due := by
    obtain ⟨fd, F⟩ := c.def_ 25 rfl
    exact ⟨_, fd, F, He.glo_ok X G (c.fact 47 (f := .glo "_law_are_tops_due") rfl)⟩
  d_law_pick := by
    obtain ⟨fd, F⟩ := c.def_ 26 rfl
    exact ⟨_, fd, F, He.glo_ok X G (c.fact 48 (f := .glo "_law_pick") rfl)⟩
  d_law_steps := by
    obtain ⟨fd, F⟩ := c.def_ 27 rfl
    exact ⟨_, fd, F, He.glo_ok X G (c.fact 49 (f := .glo "_law_steps") rfl)⟩
  d_law_same := by
    obtain ⟨fd, F⟩ := c.def_ 28 rfl
    exact ⟨_, fd, F, He.glo_ok X G (c.fact 50 (f := .glo "_law_same") rfl)⟩
  d_time_back := by
    obtain ⟨fd, F⟩ := c.def_ 29 rfl
    exact ⟨_, fd, F, He.glo_ok X G (c.fact 51 (f := .glo "time_back") rfl)⟩
  d_thinned_profile := by
    obtain ⟨fd, F⟩ := c.def_ 30 rfl
    exact ⟨_, fd, F, He.glo_ok X G (c.fact 52 (f := .glo "thinned_profile") rfl)⟩
  d_check_there := by
    obtain ⟨fd, F⟩ := c.def_ 31 rfl
    exact ⟨_, fd, F, He.glo_ok X G (c.fact 53 (f := .glo "check_there") rfl)⟩
  d_check_indexes := by
    obtain ⟨fd, F⟩ := c.def_ 32 rfl
    exact ⟨_, fd, F, He.glo_ok X G (c.fact 54 (f := .glo "check_indexes") rfl)⟩
  d_sees_by := by
    obtain ⟨fd, F⟩ := c.def_ 33 rfl
    exact ⟨_, fd, F, He.glo_ok X G (c.fact 55 (f := .glo "sees_by") rfl)⟩
  d_seen_points := by
    obtain ⟨fd, F⟩ := c.def_ 34 rfl
    exact ⟨_, fd, F, He.glo_ok X G (c.fact 56 (f := .glo "seen_points") rfl)⟩
  d_cut_profile := by
    obtain ⟨fd, F⟩ := c.def_ 35 rfl
    exact ⟨_, fd, F, He.glo_ok X G (c.fact 57 (f := .glo "cut_profile") rfl)⟩
  d_are_told_pairs := by
    obtain ⟨fd, F⟩ := c.def_ 36 rfl
    exact ⟨_, fd, F, He.glo_ok X G (c.fact 58 (f := .glo "are_told_pairs") rfl)⟩
  d_need_profile := by
    obtain ⟨fd, F⟩ := c.def_ 37 rfl
    exact ⟨_, fd, F, He.glo_ok X G (c.fact 59 (f := .glo "need_profile") rfl)⟩
  d_takes_time := by
    obtain ⟨fd, F⟩ := c.def_ 38 rfl
    exact ⟨_, fd, F, He.glo_ok X G (c.fact 60 (f := .glo "takes_time") rfl)⟩
  d_law_plus := by
    obtain ⟨fd, F⟩ := c.def_ 39 rfl
    exact ⟨_, fd, F, He.glo_ok X G (c.fact 61 (f := .glo "_law_plus") rfl)⟩
  d_takes_thinned := by
    obtain ⟨fd, F⟩ := c.def_ 40 rfl
    exact ⟨_, fd, F, He.glo_ok X G (c.fact 62 (f := .glo "takes_thinned") rfl)⟩
  d_sees := by
    obtain ⟨fd, F⟩ := c.def_ 41 rfl
    exact ⟨_, fd, F, He.glo_ok X G (c.fact 63 (f := .glo "sees") rfl)⟩
  d_joined_profiles := by
    obtain ⟨fd, F⟩ := c.def_ 42 rfl
    exact ⟨_, fd, F, He.glo_ok X G (c.fact 64 (f := .glo "joined_profiles") rfl)⟩
  d_law := by
    obtain ⟨fd, F⟩ := c.def_ 43 rfl
    exact ⟨_, fd, F, He.glo_ok X G (c.fact 65 (f := .glo "law") rfl)⟩
  g_MOST_POINTS := gl_int X G (c.fact 72 rfl)
  g_MOST_SPEED := gl_int X G (c.fact 73 rfl)
  g_MOST_THINNED := gl_int X G (c.fact 74 rfl)
  x_NoAnswer := rk_of X G (c.fact 66 (f := .glo "NoAnswer") rfl) (c.fact 67 (f := .exc "NoAnswer") rfl)
  x_NotRight := rk_of X G (c.fact 68 (f := .glo "NotRight") rfl) (c.fact 69 (f := .exc "NotRight") rfl)
  x_NotThere := rk_of X G (c.fact 70 (f := .glo "NotThere") rfl) (c.fact 71 (f := .exc "NotThere") rfl)
end K04

set_option Elab.async false
set_option linter.all false
set_option maxRecDepth 100000
set_option maxHeartbeats 0
namespace K04
open PySem PySem.Spec PyProof.Rows L2 Mir
abbrev Rw : PySem.W.OpenRow := PySem.W.OpenLaw.row PySem.Challenge.rw_signward_k04_whole_long_profiles
abbrev hk : PySem.W.Hook := hookM 4 fa fn ex
def ob (s : PySem.W.SharedT) : AlM := obsM 4 fa fn ex (HandSHeadRun.getT s)
theorem ob_eq (s : PySem.W.SharedT) : ob s = hk.obs s.abs := obsM_eq (HandSHeadRun.getT_eq s)
def loose : List Str := (["SignError", "NotRight", "NotThere", "NoAnswer", "is_integer", "is_within", "are_ascending", "check", "check_there", "shared", "ratio", "MOST_POINTS", "MOST_SPEED", "MOST_THINNED", "is_height", "is_profile", "check_profile", "ups_by", "ups_downs", "height_by"] : List Str) ++ (["height_at", "steepest", "check_speeds", "time_by", "time_for", "time_back", "thinned_profile", "check_indexes", "sees_by", "sees", "seen_points", "levels_of", "summits", "highest", "cut_profile", "joined_profiles", "are_told_pairs", "need_profile", "takes_time", "takes_thinned"] : List Str) ++ (["_law_draws", "_law_take", "_law_pick", "_law_same", "_law_ratio", "_law_plus", "_law_is_at_most", "_law_profile", "_law_steps", "_law_are_tops_due"] : List Str)
def qv : Program := PySem.W.view Rw.prog [54]
theorem headRun (w : World) : HandSHeadRun.RunEq Rw qv hk ob 3000 loose w :=
  PySem.W.byRow2 "special-get-raises" (P := fun w => HandSHeadRun.RunEq Rw qv hk ob 3000 loose w) (fun w os => by kernel_rfl) (fun w os => by kernel_rfl) w
end K04

set_option Elab.async false
set_option linter.all false
set_option maxRecDepth 100000
set_option maxHeartbeats 1000000
/-! plain: fractions, Euclid -/
namespace K04
abbrev PP := Int × Int
/-- in least terms -/
def rd (a b : Int) : Int × Int := (a / (Int.gcd a b : Int), b / (Int.gcd a b : Int))
theorem gcd_pos (a : Int) {b : Int} (h : 0 < b) : 0 < (Int.gcd a b : Int) := by
  have := Int.gcd_pos_of_ne_zero_right a (b := b) (by omega)
  omega
theorem rd_mul (a b : Int) : (rd a b).1 * (Int.gcd a b : Int) = a ∧ (rd a b).2 * (Int.gcd a b : Int) = b :=
  ⟨Int.ediv_mul_cancel (Int.gcd_dvd_left a b), Int.ediv_mul_cancel (Int.gcd_dvd_right a b)⟩
theorem rd_pos {a b : Int} (h : 0 < b) : 0 < (rd a b).2 := by
  have h1 := (rd_mul a b).2
  have h2 := gcd_pos a h
  rcases Int.lt_trichotomy 0 (rd a b).2 with q | q | q
  · exact q
  · rw [← q] at h1; omega
  · have := Int.mul_neg_of_neg_of_pos q h2
    omega
theorem rd_le {a b : Int} (h : 0 < b) : (rd a b).2 ≤ b := by
  have h1 := (rd_mul a b).2
  have h2 := gcd_pos a h
  have h3 := rd_pos (a := a) h
  have : (rd a b).2 * 1 ≤ (rd a b).2 * (Int.gcd a b : Int) := Int.mul_le_mul_of_nonneg_left (by omega) (by omega)
  omega
/-- the same fraction -/
theorem rd_same (a : Int) {b : Int} (h : 0 < b) : (rd a b).1 * b = a * (rd a b).2 := by
  obtain ⟨h1, h2⟩ := rd_mul a b
  refine (congrArg ((rd a b).1 * ·) h2.symm).trans (Eq.trans ?_ (congrArg (· * (rd a b).2) h1))
  show (rd a b).1 * ((rd a b).2 * (Int.gcd a b : Int)) = (rd a b).1 * (Int.gcd a b : Int) * (rd a b).2
  ac_rfl
theorem rd_one (a : Int) {b : Int} (h : 0 < b) : Int.gcd (rd a b).1 (rd a b).2 = 1 := by
  have := gcd_pos a h
  exact Int.gcd_ediv_gcd_ediv_gcd (by omega)
theorem co_eq {a b c d : Int} (hb : 0 < b) (hd : 0 < d) (g1 : Int.gcd a b = 1) (g2 : Int.gcd c d = 1) (h : a * d = c * b) : a = c ∧ b = d := by
  have k1 : b ∣ d := by
    have : b ∣ a * d := ⟨c, by rw [h, Int.mul_comm]⟩
    have q := Int.dvd_gcd_mul_iff_dvd_mul.mpr this
    rw [Int.gcd_comm, g1] at q
    simpa using q
  have k2 : d ∣ b := by
    have : d ∣ c * b := ⟨a, by rw [← h, Int.mul_comm]⟩
    have q := Int.dvd_gcd_mul_iff_dvd_mul.mpr this
    rw [Int.gcd_comm, g2] at q
    simpa using q
  have e : b = d := by
    have := Int.le_of_dvd hd k1
    have := Int.le_of_dvd hb k2
    omega
  subst e
  exact ⟨Int.eq_of_mul_eq_mul_right (by omega) h, rfl⟩
theorem rd_eq {a b c d : Int} (hb : 0 < b) (hd : 0 < d) (h : a * d = c * b) : rd a b = rd c d := by
  obtain ⟨h1, h2⟩ := rd_mul a b
  obtain ⟨h3, h4⟩ := rd_mul c d
  have p1 := gcd_pos a hb
  have p2 := gcd_pos c hd
  have : (rd a b).1 * (rd c d).2 = (rd c d).1 * (rd a b).2 := by
    have e : ((rd a b).1 * (Int.gcd a b : Int)) * ((rd c d).2 * (Int.gcd c d : Int)) = ((rd c d).1 * (Int.gcd c d : Int)) * ((rd a b).2 * (Int.gcd a b : Int)) := by
      rw [h1, h2, h3, h4, h]
    generalize (Int.gcd a b : Int) = x at *
    generalize (Int.gcd c d : Int) = y at *
    generalize (rd a b).1 = p at *
    generalize (rd a b).2 = q at *
    generalize (rd c d).1 = r at *
    generalize (rd c d).2 = s at *
    have e2 : (p * s) * (x * y) = (r * q) * (x * y) := by
      rw [show (p * s) * (x * y) = p * x * (s * y) by ac_rfl, e]
      ac_rfl
    exact Int.eq_of_mul_eq_mul_right (Int.ne_of_gt (Int.mul_pos p1 p2)) e2
  obtain ⟨e1, e2⟩ := co_eq (rd_pos hb) (rd_pos hd) (rd_one a hb) (rd_one c hd) this
  exact Prod.ext e1 e2
theorem le_scale {p q r s x y a b c d : Int} (h1 : p * x = a) (h2 : q * x = b) (h3 : r * y = c) (h4 : s * y = d) (hp : 0 < x * y) : p * s ≤ r * q ↔ a * d ≤ c * b := by
  subst h1 h2 h3 h4
  rw [show p * x * (s * y) = (p * s) * (x * y) by ac_rfl, show r * y * (q * x) = (r * q) * (x * y) by ac_rfl]
  exact ⟨fun h => Int.mul_le_mul_of_nonneg_right h (by omega), fun h => Int.le_of_mul_le_mul_right h hp⟩
/-- at most -/
theorem rd_le_iff {a b c d : Int} (hb : 0 < b) (hd : 0 < d) : (rd a b).1 * (rd c d).2 ≤ (rd c d).1 * (rd a b).2 ↔ a * d ≤ c * b :=
  le_scale (rd_mul a b).1 (rd_mul a b).2 (rd_mul c d).1 (rd_mul c d).2 (Int.mul_pos (gcd_pos a hb) (gcd_pos c hd))
/-! Euclid -/
theorem gcd_mod {a b : Int} (hb : 0 < b) : Int.gcd b (a % b) = Int.gcd a b := by
  rw [Int.gcd_comm, Int.emod_def]
  have : a - b * (a / b) = a + b * (-(a / b)) := by rw [Int.mul_neg, Int.sub_eq_add_neg]
  rw [this]
  exact Int.gcd_add_mul_left_left ..
theorem step_half {a b : Int} (hb : 0 < b) (h : b ≤ a) : 2 * (b * (a % b)) < a * b + 1 := by
  have h1 := Int.emod_nonneg a (by omega : b ≠ 0)
  have h2 := Int.emod_lt_of_pos a hb
  have h3 : 2 * (a % b) ≤ a := by
    have e := Int.emod_add_mul_ediv a b
    have h4 : 1 ≤ a / b := Int.le_ediv_of_mul_le hb (by omega)
    have h5 : b * 1 ≤ b * (a / b) := Int.mul_le_mul_of_nonneg_left h4 (by omega)
    omega
  have h6 : b * (2 * (a % b)) ≤ b * a := Int.mul_le_mul_of_nonneg_left h3 (by omega)
  rw [show 2 * (b * (a % b)) = b * (2 * (a % b)) by ac_rfl, Int.mul_comm a b]
  omega
end K04

set_option Elab.async false
set_option linter.all false
set_option maxRecDepth 100000
set_option maxHeartbeats 1000000
local macro_rules
  | `(tactic| array_get_dec) => `(tactic| first
    | with_reducible refine Mir.sat_v ?_
    | with_reducible refine Mir.sat_int ?_
    | with_reducible refine Mir.sat_cons ?_
    | with_reducible refine Mir.sat_nil ?_
    | with_reducible refine Mir.sat_call ?_
    | with_reducible refine Mir.sat_glob ?_
    | with_reducible refine Mir.sat_bin ?_
    | with_reducible refine Mir.sat_cmp ?_
    | with_reducible refine Mir.sat_blt ?_
    | with_reducible refine Mir.sat_sub ?_
    | with_reducible refine Mir.sat_callS ?_
    | with_reducible refine Mir.sat_tup ?_
    | with_reducible refine Mir.sat_lst ?_
    | with_reducible refine Mir.sat_one ?_
    | with_reducible refine Mir.sat_not ?_
    | with_reducible refine Mir.sat_and ?_
    | with_reducible refine Mir.sat_or ?_
    | with_reducible refine Mir.sat_cond ?_
    | with_reducible refine Mir.sat_chain ?_
    | with_reducible refine Mir.sat_bl ?_
    | with_reducible refine Mir.sat_non ?_
    | with_reducible refine Mir.sat_isa ?_
    | with_reducible refine Mir.sat_subG ?_
    | with_reducible refine Mir.sat_op1 ?_
    | with_reducible refine Mir.sat_op2 ?_
    | with_reducible refine Mir.sat_slL ?_
    | with_reducible refine Mir.sat_slH ?_
    | with_reducible refine Mir.sat_sl ?_
    | with_reducible refine Mir.sat_neg ?_
    | with_reducible refine Mir.sat_dict0 ?_
    | with_reducible refine Mir.sat_of ?_
    | with_reducible refine Mir.sat_range1 ?_
    | with_reducible refine Mir.sat_range2 ?_
    | with_reducible refine Mir.sat_zip ?_
    | with_reducible refine Mir.sat_enum ?_
    | with_reducible refine Mir.sat_sign ?_
    | with_reducible refine Mir.sat_end ?_
    | with_reducible refine Mir.sat_set ?_
    | with_reducible refine Mir.sat_setT ?_
    | with_reducible refine Mir.sat_asg ?_
    | with_reducible refine Mir.sat_par ?_
    | with_reducible refine Mir.sat_app ?_
    | with_reducible refine Mir.sat_setItem ?_
    | with_reducible refine Mir.sat_aug ?_
    | with_reducible refine Mir.sat_expr ?_
    | with_reducible refine Mir.sat_retE ?_
    | with_reducible refine Mir.sat_retN ?_
    | with_reducible refine Mir.sat_pass ?_
    | with_reducible refine Mir.sat_brk ?_
    | with_reducible refine Mir.sat_cnt ?_
    | with_reducible refine Mir.sat_if ?_
    | with_reducible refine Mir.lcf_i ?_
    | with_reducible refine Mir.sat_pick ?_
    | with_reducible refine Mir.sat_range3 ?_
    | with_reducible refine Mir.sat_revw ?_
    | with_reducible refine Mir.sat_raise ?_
    | with_reducible refine Mir.sat_dispT ?_
    | with_reducible refine Mir.sat_dispL ?_
    | with_reducible refine Mir.sat_dnil ?_
    | with_reducible refine Mir.sat_dcons ?_
    | with_reducible refine Mir.sat_dstar ?_
    | with_reducible refine Mir.sat_enumZip ?_
    | with_reducible refine Mir.fx_nx ?_
    | with_reducible refine Mir.fx_ret ?_
    | with_reducible refine Mir.fg_nil ?_
    | with_reducible refine Mir.sat_allC ?_
    | with_reducible refine Mir.kx_nx ?_
    | with_reducible refine Mir.kx_ret ?_
    | with_reducible refine Mir.kx_brk ?_
    | with_reducible refine Mir.kx_cnt ?_
    | with_reducible refine Mir.rnd_nx ?_
    | with_reducible refine Mir.rnd_ret ?_
    | with_reducible refine Mir.rnd_brk ?_
    | with_reducible refine Mir.rnd_cnt ?_
    | with_reducible refine Mir.fin_ret ?_
    | with_reducible refine Mir.fin_nx ?_
    | ((with_reducible refine Mir.sat_str ?_ ?_); · decide +kernel))
local macro_rules
  | `(tactic| array_mem_dec) => `(tactic| first
    | with_reducible refine Mir.sat_addI ?_
    | with_reducible refine Mir.sat_subI ?_
    | with_reducible refine Mir.sat_ltI ?_
    | with_reducible refine Mir.sat_gtI ?_
    | with_reducible refine Mir.sat_leI ?_
    | with_reducible refine Mir.sat_geI ?_
    | with_reducible refine Mir.sat_eqI ?_
    | with_reducible refine Mir.sat_neI ?_
    | with_reducible refine Mir.sat_is ?_
    | with_reducible refine Mir.sat_isnt ?_
    | with_reducible refine Mir.sat_eqS ?_
    | with_reducible refine Mir.sat_neB ?_
    | with_reducible refine Mir.sat_eqB ?_
    | with_reducible refine Mir.sat_neS ?_
    | with_reducible refine Mir.sat_abs ?_
    | with_reducible refine Mir.sat_int_ ?_
    | with_reducible refine Mir.sat_intB ?_
    | with_reducible refine Mir.dcf_i ?_
    | with_reducible refine Mir.sat_min2 ?_
    | with_reducible refine Mir.sat_max2 ?_
    | with_reducible refine Mir.sat_lenL ?_
    | with_reducible refine Mir.sat_lenT ?_
    | with_reducible refine Mir.sat_lenS ?_
    | with_reducible refine Mir.sat_tupL ?_
    | with_reducible refine Mir.sat_listL ?_
    | with_reducible refine Mir.sat_listT ?_
    | with_reducible refine Mir.sat_ofL ?_
    | with_reducible refine Mir.sat_ofT ?_
    | with_reducible refine Mir.sat_nm ?_
    | with_reducible refine Mir.if_T ?_
    | with_reducible refine Mir.if_F ?_
    | ((with_reducible refine Mir.sat_mulI ?_ ?_); · first | exact Or.inr rfl | exact Or.inl rfl | exact Or.inr (Mir.small_of (by omega)) | exact Or.inl (Mir.small_of (by omega)))
    | ((with_reducible refine Mir.sat_divI ?_ ?_); · omega)
    | ((with_reducible refine Mir.sat_modI ?_ ?_); · omega)
    | ((with_reducible refine Mir.sat_tg ?_ ?_); · exact rfl)
    | ((with_reducible refine Mir.sat_atLe ?_); refine ⟨_, rfl, ?_⟩)
    | ((with_reducible refine Mir.sat_atTe ?_); refine ⟨_, rfl, ?_⟩)
    | with_reducible refine Mir.if_not' ?_
    | with_reducible refine Mir.if_not ?_
    | ((with_reducible refine Mir.if_decT ?_ ?_); · omega)
    | ((with_reducible refine Mir.if_decF ?_ ?_); · omega)
    | refine ⟨_, rfl, ?_⟩
    | refine ⟨rfl, ?_⟩
    | refine ⟨Nat.le_of_ble_eq_true rfl, ?_⟩
    | refine ⟨by decide, ?_⟩
    | refine Mir.if_rT rfl ?_
    | refine Mir.if_rF rfl ?_)
local macro_rules
  | `(tactic| sizeOf_list_dec) => `(tactic| repeat (first | array_get_dec | array_mem_dec))
local macro_rules
  | `(tactic| clean_wf) => `(tactic| repeat (first | array_get_dec | array_mem_dec | with_reducible refine Mir.sat_st ?_))

namespace Mir
open PySem
section
variable {S : Type} {X : Str → Prop} {ρ : Env} {F : Fl → Prop} {Q : PyData → Prop}
theorem sat_appT {i : Nat} {e : E S} (h : ∃ xs, getL ρ i = .ok xs ∧ SatE X (ev e ρ) fun d => imm d = true ∧ xs.length < sizeLine ∧ F (.nx (ρ.set i (some (.list (xs ++ [d])))))) : SatE X (run (.app i true e) ρ) F := by
  obtain ⟨xs, e1, h⟩ := h
  unfold run
  exact sat_bnd (sat_lft e1 (sat_bnd (h.imp fun d h => by
    rw [if_pos ⟨.inr h.1, h.2.1⟩]
    exact sat_ret h.2.2)))
theorem sat_allM {α : Type} {l : List α} {f : α → Bool} (h : Q (.bool (l.all f))) : SatE X (lft (S := S) (bltD .all_ [.list (l.filterMap fun a => some (PyData.bool (f a)))])) Q := sat_lft (by
  show (if ((l.filterMap fun a => some (PyData.bool (f a))).all okD) = true then R.ok (PyData.bool ((l.filterMap fun a => some (PyData.bool (f a))).all truthy)) else .bad) = .ok (PyData.bool (l.all f))
  have e1 : (l.filterMap fun a => some (PyData.bool (f a))).all okD = true := by
    simp only [List.all_eq_true, List.mem_filterMap]
    rintro x ⟨y, _, e⟩
    cases e; rfl
  have e2 : (l.filterMap fun a => some (PyData.bool (f a))).all truthy = l.all f := by
    rw [List.filterMap_eq_map' , List.all_map]; rfl
  rw [e1, e2]; rfl) h
theorem sat_allT {α : Type} {l : List α} (h : Q (.bool true)) : SatE X (lft (S := S) (bltD .all_ [.list (l.filterMap fun _ => some (PyData.bool true))])) Q := by
  refine sat_allM (f := fun _ => true) ?_
  rw [List.all_eq_true.mpr fun _ _ => rfl]
  exact h
theorem sat_sumM {α : Type} {l : List α} {f : α → Int} (h : Q (.int (l.map f).sum)) : SatE X (lft (S := S) (bltD .sum [.list (l.filterMap fun a => some (PyData.int (f a)))])) Q := by
  have : (l.filterMap fun a => some (PyData.int (f a))) = (l.map f).map PyData.int := by
    rw [List.filterMap_eq_map', List.map_map]; rfl
  rw [this]
  exact sat_sumI h
end
end Mir
namespace K04
open PySem Mir
abbrev ptD (p : PP) : PyData := .tuple [.int p.1, .int p.2]
@[irreducible] def lnD (g : Nat → PP) (n : Nat) : List PyData := (List.range (n + 1)).map fun i => ptD (g i)
theorem lnD_eq (g : Nat → PP) (n : Nat) : lnD g n = (List.range (n + 1)).map fun i => ptD (g i) := by unfold lnD; rfl
theorem lnD_len (g : Nat → PP) (n : Nat) : (lnD g n).length = n + 1 := by rw [lnD_eq]; simp
theorem lnD_get {g : Nat → PP} {n i : Nat} (h : i ≤ n) : (lnD g n)[i]? = some (ptD (g i)) := by
  rw [lnD_eq, List.getElem?_map, List.getElem?_range (by omega)]
  rfl
abbrev prD (g : Nat → PP) (i : Nat) : PyData := .tuple [ptD (g i), ptD (g (i + 1))]
theorem ln_zip (g : Nat → PP) (n : Nat) : zipD (.list (lnD g n)) (.list ((lnD g n).drop (Int.toNat 1))) = .ok ((List.range n).map (prD g)) := by
  show R.ok (((lnD g n).zip ((lnD g n).drop 1)).map fun p => PyData.tuple [p.1, p.2]) = _
  congr 1
  apply List.ext_getElem?
  intro i
  rw [List.getElem?_map]
  by_cases h : i < n
  · have e1 := lnD_get (g := g) (n := n) (i := i) (by omega)
    have e2 : ((lnD g n).drop 1)[i]? = some (ptD (g (i + 1))) := by
      rw [List.getElem?_drop, show 1 + i = i + 1 by omega]
      exact lnD_get (by omega)
    rw [(List.getElem?_zip_eq_some (z := (ptD (g i), ptD (g (i + 1))))).mpr ⟨e1, e2⟩, List.getElem?_map, List.getElem?_range h]
    rfl
  · rw [List.getElem?_eq_none (by simp [lnD_len]; omega), List.getElem?_eq_none (by simp; omega)]
    rfl
theorem check_ok : m_check [.bool true] = .ok .none := by
  refine defP_ok ?_
  unfold b_check
  show Sat (runs _ [some (.bool true)]) _
  clean_wf
  rfl
theorem is_integer_int (i : Int) : m_is_integer [.int i] = .ok (.bool true) := by
  refine defP_ok ?_
  unfold b_is_integer
  show Sat (runs _ [some (.int i)]) _
  clean_wf
  rfl
theorem is_within_int {i a b : Int} (h : a ≤ i ∧ i ≤ b) : m_is_within [.int i, .int a, .int b] = .ok (.bool true) := by
  refine defP_ok ?_
  unfold b_is_within
  show Sat (runs _ [some (.int i), some (.int a), some (.int b)]) _
  clean_wf
  refine sat_call_ok (is_integer_int i) ?_
  clean_wf
  rw [decide_eq_true h.2]
theorem eqv_pt (p q : PP) : PyData.eqv (ptD p) (ptD q) = decide (p.1 = q.1 ∧ p.2 = q.2) := by
  simp only [PyData.eqv, PyData.eqvAll, Bool.and_true, Bool.decide_and, Bool.beq_eq_decide_eq]
theorem atI_last {α : Type} {xs : List α} {n : Nat} {x : α} (h : xs.length = n + 1) (e : xs[n]? = some x) : L2.atI xs (-1) = some x := by
  have : L2.ixN xs.length (-1) = some n := by
    rw [h]
    unfold L2.ixN
    rw [if_neg (by decide), if_pos (by omega)]
    congr 1
    omega
  unfold L2.atI
  rw [this]
  exact e
theorem fm_some {α β : Type} (f : α → β) : ∀ l : List α, (l.filterMap fun a => some (f a)) = l.map f
  | [] => rfl
  | a :: l => by rw [List.filterMap_cons_some (f := fun a => some (f a)) (b := f a) rfl, fm_some f l]; rfl
theorem fm_filter {α β : Type} (p : α → Bool) (f : α → β) : ∀ l : List α, (l.filterMap fun a => if p a = true then some (f a) else none) = (l.filter p).map f
  | [] => rfl
  | a :: l => by
    rw [List.filter_cons]
    cases h : p a with
    | true => rw [List.filterMap_cons_some (by rw [h]; rfl), fm_filter p f l]; rfl
    | false => rw [List.filterMap_cons_none (by rw [h]; rfl), fm_filter p f l]; rfl
theorem cutD_one (l : List PyData) : cutD l (some 1) none = l.drop 1 := by
  cases l with
  | nil => simp [cutD]
  | cons a l => exact cutD_lo (by omega) (by simp only [List.length_cons]; omega)
theorem sat_cutT1 {S : Type} {X : Str → Prop} {l : List PyData} {Q : PyData → Prop} (h : Q (.tuple (l.drop 1))) : SatE X (lft (S := S) (cutX (.tuple l) (some 1) none)) Q := sat_lft (by
  show R.ok (PyData.tuple (cutD l (some 1) none)) = _
  rw [cutD_one]) h
theorem sat_cutL1 {S : Type} {X : Str → Prop} {l : List PyData} {Q : PyData → Prop} (h : Q (.list (l.drop 1))) : SatE X (lft (S := S) (cutX (.list l) (some 1) none)) Q := sat_lft (by
  show R.ok (PyData.list (cutD l (some 1) none)) = _
  rw [cutD_one]) h
/-! Euclid walked -/
theorem two_mul_pow (k : Nat) : (2 : Int) ^ (k + 1) = 2 * 2 ^ k := by rw [Int.pow_succ, Int.mul_comm]
/-- numbers at one turn of Euclid's, of which so many may follow -/
def Eu (g : Nat) (x y : Int) (k : Nat) : Prop := 0 ≤ x ∧ 0 ≤ y ∧ Int.gcd x y = g ∧ ((y ≤ x ∧ x * y < 2 ^ k) ∨ (x < y ∧ ∃ j, k = j + 1 ∧ x * y < 2 ^ j))
theorem Eu.step {g : Nat} {x y : Int} {k : Nat} (h : Eu g x y k) (hy : 0 < y) : ∃ j, k = j + 1 ∧ Eu g y (x % y) j := by
  obtain ⟨h1, h2, h3, h4⟩ := h
  have m0 := Int.emod_nonneg x (by omega : y ≠ 0)
  have m1 := Int.emod_lt_of_pos x hy
  rcases h4 with ⟨h4, h5⟩ | ⟨h4, j, h5, h6⟩
  · have hp : 0 < x * y := Int.mul_pos (by omega) hy
    cases k with
    | zero => rw [Int.pow_zero] at h5; omega
    | succ j =>
      have := step_half hy h4
      rw [two_mul_pow] at h5
      exact ⟨j, rfl, h2, m0, by rw [gcd_mod hy]; exact h3, .inl ⟨by omega, by omega⟩⟩
  · have e : x % y = x := Int.emod_eq_of_lt h1 h4
    exact ⟨j, h5, h2, m0, by rw [gcd_mod hy]; exact h3, .inl ⟨by omega, by rw [e, Int.mul_comm]; exact h6⟩⟩
theorem Eu.fin {g : Nat} {x : Int} {k : Nat} (h : Eu g x 0 k) : x = (g : Int) := by
  obtain ⟨h1, h2, h3, h4⟩ := h
  rw [Int.gcd_zero_right] at h3
  omega
theorem Eu.zero {g : Nat} {x y : Int} (h : Eu g x y 0) : y = 0 := by
  obtain ⟨h1, h2, h3, h4⟩ := h
  rcases h4 with ⟨h4, h5⟩ | ⟨_, j, h5, _⟩
  · rw [Int.pow_zero] at h5
    rcases Int.lt_or_eq_of_le h2 with q | q
    · have := Int.mul_pos (by omega : 0 < x) q
      omega
    · exact q.symm
  · omega
def aB (i : Int) : Int := if i < 0 then -i else i
theorem aB_is (i : Int) : aB i = (i.natAbs : Int) := by unfold aB; split <;> omega
theorem Eu.begin {a b : Int} {k : Nat} (hb : 0 < b) (h : aB a * b < 2 ^ k) : Eu (Int.gcd a b) (aB a) (aB b) (k + 1) := by
  have e : aB b = b := by unfold aB; rw [if_neg (by omega)]
  have e1 := aB_is a
  rw [e]
  refine ⟨by omega, by omega, ?_, ?_⟩
  · rw [e1]
    show Nat.gcd ((a.natAbs : Int).natAbs) b.natAbs = Nat.gcd a.natAbs b.natAbs
    simp
  · by_cases q : b ≤ aB a
    · refine .inl ⟨q, ?_⟩
      rw [two_mul_pow]
      have : (0 : Int) < 2 ^ k := Int.pow_pos (by omega)
      omega
    · exact .inr ⟨by omega, k, rfl, h⟩
theorem shared_ok {a b : Int} (hb : 0 < b) (h : aB a * b < 2 ^ 300) : m_shared [.int a, .int b] = .ok (.int (Int.gcd a b)) := by
  refine defP_ok ?_
  unfold b_shared
  show Sat (runs _ [some (.int a), some (.int b)]) _
  have h0 := Eu.begin hb h
  clean_wf
  refine sat_while (fun μ ρ => ∃ x y, Eu (Int.gcd a b) x y μ ∧ ρ = [some (.int x), some (.int y)]) 301 (by omega) ⟨_, _, h0, rfl⟩ fun μ ρ => ?_
  rintro ⟨x, y, he, rfl⟩
  clean_wf
  refine if_dec (fun hy => ?_) (fun hy => ?_)
  · obtain ⟨j, rfl, he'⟩ := he.step hy
    clean_wf
    exact ⟨j, by omega, _, _, he', rfl⟩
  · have : y = 0 := by have := he.2.1; omega
    subst this
    clean_wf
    rw [he.fin]
theorem ratio_ok {a b : Int} (hb : 0 < b) (h : aB a * b < 2 ^ 300) (h2 : b < 2 ^ 300) : m_ratio [.int a, .int b] = .ok (ptD (rd a b)) := by
  refine defP_ok ?_
  unfold b_ratio
  show Sat (runs _ [some (.int a), some (.int b), none]) _
  have hg := gcd_pos a hb
  have hl : (Int.gcd a b : Int).natAbs.log2 < 9000 := log_lt 300 hg (by have := Int.gcd_le_right a hb; omega) (by omega)
  clean_wf
  refine sat_call_ok (shared_ok hb h) ?_
  clean_wf
  refine sat_divW ⟨hg, hl⟩ ?_
  clean_wf
  refine sat_divW ⟨hg, hl⟩ ?_
  clean_wf
  rfl
theorem law_ratio_ok {a b : Int} (hb : 0 < b) (h : aB a * b < 2 ^ 300) (h2 : b < 2 ^ 300) : m_law_ratio [.int a, .int b] = .ok (ptD (rd a b)) := by
  refine defP_ok ?_
  unfold b_law_ratio
  show Sat (runs _ [some (.int a), some (.int b), none, none, none]) _
  have hg := gcd_pos a hb
  have hl : (Int.gcd a b : Int).natAbs.log2 < 9000 := log_lt 300 hg (by have := Int.gcd_le_right a hb; omega) (by omega)
  have hz : sizeLine = 16777216 := sizeLine_eq
  have h0 := Eu.begin hb h
  clean_wf
  have fin : ∀ (x y : Int) (k : Nat) (o4 : Option PyData), Eu (Int.gcd a b) x y k → y = 0 → Sat (S := Unit) (runs (.cons (.ret (.tup (.cons (.bin .FloorDiv (.v 0) (.v 2)) (.cons (.bin .FloorDiv (.v 1) (.v 2)) .nil)))) .nil) [some (.int a), some (.int b), some (.int x), some (.int y), o4]) (FinQ (· = ptD (rd a b))) := fun x y k o4 he hy => by
    subst hy
    rw [he.fin]
    clean_wf
    refine sat_divW ⟨hg, hl⟩ ?_
    clean_wf
    refine sat_divW ⟨hg, hl⟩ ?_
    clean_wf
    rfl
  refine sat_for (fun _ k ρ => ∃ x y o4, Eu (Int.gcd a b) x y (301 - k) ∧ ρ = [some (.int a), some (.int b), some (.int x), some (.int y), o4]) ?_
  clean_wf
  refine ⟨⟨_, _, none, h0, rfl⟩, fun k hk ρ => ?_, fun ρ => ?_⟩
  · rintro ⟨x, y, o4, he, rfl⟩
    rw [rangeD_get hk]
    clean_wf
    refine if_dec (fun hy => ?_) (fun hy => ?_)
    · subst hy
      have hx := he.fin
      subst hx
      clean_wf
      refine sat_divW ⟨hg, hl⟩ ?_
      clean_wf
      refine sat_divW ⟨hg, hl⟩ ?_
      clean_wf
      rfl
    · have hy0 : 0 < y := by have := he.2.1; omega
      obtain ⟨j, hj, he'⟩ := he.step hy0
      clean_wf
      exact ⟨_, _, _, by rw [show 301 - (k + 1) = j by omega]; exact he', rfl⟩
  · rintro ⟨x, y, o4, he, rfl⟩
    rw [rangeD_len] at he
    exact fin x y _ _ he he.zero
end K04

set_option Elab.async false
set_option linter.all false
set_option maxRecDepth 100000
set_option maxHeartbeats 1000000

namespace K04
open PySem Mir
/-- a profile of n + 1 points -/
structure Pf (g : Nat → PP) (n : Nat) : Prop where
  n1 : 1 ≤ n
  n2 : n ≤ 99
  z : (g 0).1 = 0
  up : ∀ i, i < n → (g i).1 < (g (i + 1)).1
/-- steps -/
def st (g : Nat → PP) (i : Nat) : Int := (g (i + 1)).2 - (g i).2
def po (i : Int) : Int := if 0 < i then i else 0
def ups (g : Nat → PP) (n : Nat) : Int := ((List.range n).map fun i => po (st g i)).sum
def dns (g : Nat → PP) (n : Nat) : Int := ((List.range n).map fun i => po (-(st g i))).sum
section
variable {g : Nat → PP} {n : Nat}
theorem is_integer_any (d : PyData) : m_is_integer [d] = .ok (.bool (match d with | .int _ => true | _ => false)) := by
  refine defP_ok ?_
  unfold b_is_integer
  show Sat (runs _ [some d]) _
  cases d <;> clean_wf <;> rfl
theorem is_height_ok (p : PP) : m_is_height [ptD p] = .ok (.bool true) := by
  refine defP_ok ?_
  unfold b_is_height
  show Sat (runs _ [some (ptD p)]) _
  clean_wf
  refine sat_call_ok (is_integer_int _) ?_
  clean_wf
  refine sat_call_ok (is_integer_int _) ?_
  clean_wf
  rfl
abbrev iD (l : List Int) : PyData := .list (l.map .int)
abbrev p2D (p : Int × Int) : PyData := .tuple [.int p.1, .int p.2]
def zs (T : List Int) : List (Int × Int) := T.zip (T.drop 1)
theorem l_zip (T : List Int) : zipD (iD T) (.list ((T.map PyData.int).drop (Int.toNat 1))) = .ok ((zs T).map p2D) := by
  show R.ok (((T.map PyData.int).zip ((T.map PyData.int).drop 1)).map fun p => PyData.tuple [p.1, p.2]) = _
  rw [← List.map_drop, List.zip_map, List.map_map]
  rfl
theorem zs_asc : ∀ {T : List Int}, T.Pairwise (· < ·) → ∀ p ∈ zs T, p.1 < p.2
  | [], _, p, hp => nomatch hp
  | [a], _, p, hp => nomatch hp
  | a :: b :: r, h, p, hp => by
    obtain ⟨h1, h2⟩ := List.pairwise_cons.mp h
    rcases List.mem_cons.mp (show p ∈ (a, b) :: zs (b :: r) from hp) with e | e
    · rw [e]; exact h1 b (.head _)
    · exact zs_asc h2 p e
theorem are_ascending_ok {T : List Int} (hT : T.Pairwise (· < ·)) : m_are_ascending [iD T] = .ok (.bool true) := by
  refine defP_ok ?_
  unfold b_are_ascending
  show Sat (runs _ [some (iD T), none, none]) _
  clean_wf
  refine sat_lcM (zs T) p2D (fun _ => some (.bool true)) ?_
  clean_wf
  refine sat_cutL1 ?_
  clean_wf
  refine sat_lft (l_zip T) ⟨rfl, fun p hp => ?_, ?_⟩
  · clean_wf
    rw [decide_eq_true (zs_asc hT p hp)]
  · refine sat_nil (sat_allT ?_)
    clean_wf
    rfl
/-- the metres -/
def mt (g : Nat → PP) (n : Nat) : List Int := (List.range (n + 1)).map fun i => (g i).1
theorem Pf.lt (h : Pf g n) : ∀ {i j : Nat}, i < j → j ≤ n → (g i).1 < (g j).1 := by
  intro i j hij hj
  induction j with
  | zero => omega
  | succ j ih =>
    have := h.up j (by omega)
    by_cases e : i = j
    · subst e; exact this
    · have := ih (by omega) (by omega)
      omega
theorem mt_asc (h : Pf g n) : (mt g n).Pairwise (· < ·) := by
  unfold mt
  rw [List.pairwise_map]
  refine (List.pairwise_lt_range (n := n + 1)).imp_of_mem fun {a b} ha hb hab => h.lt hab ?_
  have := List.mem_range.mp hb
  omega
theorem is_profile_ok (h : Pf g n) : m_is_profile [.list (lnD g n)] = .ok (.bool true) := by
  refine defP_ok ?_
  unfold b_is_profile
  show Sat (runs _ [some (.list (lnD g n)), none, none, none]) _
  have h1 := h.n1
  have h2 := h.n2
  have hl := lnD_len g n
  clean_wf
  refine sat_lcM (List.range (n + 1)) (fun i => ptD (g i)) (fun _ => some (.bool true)) ?_
  clean_wf
  refine ⟨lnD_eq g n, fun i hi => ?_, ?_⟩
  · clean_wf
    refine sat_call_ok (is_height_ok _) ?_
    clean_wf
    rfl
  refine sat_nil (sat_allT ?_)
  clean_wf
  refine sat_atL (d := ptD (g 0)) (by omega) (lnD_get (by omega)) ?_
  clean_wf
  rw [decide_eq_true h.z]
  clean_wf
  refine sat_lcM (List.range (n + 1)) (fun i => ptD (g i)) (fun i => some (.int (g i).1)) ?_
  clean_wf
  refine ⟨lnD_eq g n, fun i hi => ?_, ?_⟩
  · clean_wf
    rfl
  rw [fm_some, show (List.range (n + 1)).map (fun i => PyData.int (g i).1) = (mt g n).map PyData.int by unfold mt; rw [List.map_map]; rfl]
  clean_wf
  refine sat_call_ok (are_ascending_ok (mt_asc h)) ?_
  clean_wf
  rfl
theorem check_profile_ok (h : Pf g n) : m_check_profile [.list (lnD g n)] = .ok .none := by
  refine defP_ok ?_
  unfold b_check_profile
  show Sat (runs _ [some (.list (lnD g n))]) _
  clean_wf
  refine sat_call_ok (is_profile_ok h) ?_
  clean_wf
  refine sat_call_ok check_ok ?_
  clean_wf
  rfl
/-! ups and downs -/
def stL (g : Nat → PP) (n : Nat) : List Int := (List.range n).map (st g)
theorem sum_pos : ∀ l : List Int, (l.filter fun i => decide (0 < i)).sum = (l.map po).sum
  | [] => rfl
  | a :: l => by
    have ih := sum_pos l
    rw [List.filter_cons, List.map_cons, List.sum_cons, ← ih]
    unfold po
    split
    · rename_i q
      rw [if_pos (of_decide_eq_true q), List.sum_cons]
    · rename_i q
      rw [if_neg (by simpa using q)]
      omega
theorem sum_neg : ∀ l : List Int, -((l.filter fun i => decide (i < 0)).sum) = (l.map fun i => po (-i)).sum
  | [] => rfl
  | a :: l => by
    have ih := sum_neg l
    rw [List.filter_cons, List.map_cons, List.sum_cons, ← ih]
    unfold po
    split
    · rename_i q
      have := of_decide_eq_true q
      rw [if_pos (by omega), List.sum_cons]
      omega
    · rename_i q
      have : ¬ a < 0 := by simpa using q
      rw [if_neg (by omega)]
      omega
theorem ups_is (g : Nat → PP) (n : Nat) : ((stL g n).filter fun i => decide (0 < i)).sum = ups g n := by
  rw [sum_pos]; unfold stL ups; rw [List.map_map]; rfl
theorem dns_is (g : Nat → PP) (n : Nat) : -((stL g n).filter fun i => decide (i < 0)).sum = dns g n := by
  rw [sum_neg]; unfold stL dns; rw [List.map_map]; rfl
theorem ups_by_ok (g : Nat → PP) (n : Nat) : m_ups_by [.list (lnD g n)] = .ok (.tuple [.int (ups g n), .int (dns g n)]) := by
  refine defP_ok ?_
  unfold b_ups_by
  show Sat (runs _ [some (.list (lnD g n)), none, none, none, none]) _
  clean_wf
  refine sat_lcM (List.range n) (prD g) (fun i => some (.int (st g i))) ?_
  clean_wf
  refine sat_cutL1 ?_
  clean_wf
  refine sat_lft (ln_zip g n) ⟨rfl, fun i hi => ?_, ?_⟩
  · clean_wf
    rfl
  rw [fm_some, show (List.range n).map (fun i => PyData.int (st g i)) = (stL g n).map PyData.int by unfold stL; rw [List.map_map]; rfl]
  clean_wf
  refine sat_lcM (stL g n) PyData.int (fun i => if decide (0 < i) = true then some (.int i) else none) ?_
  clean_wf
  refine ⟨fun i hi => ?_, ?_⟩
  · clean_wf
    refine if_dec (fun h1 => ?_) (fun h1 => ?_)
    · clean_wf
      rw [decide_eq_true h1]; rfl
    · rw [decide_eq_false h1]; rfl
  rw [fm_filter (fun i => decide (0 < i))]
  refine sat_nil (sat_sumI ?_)
  rw [ups_is]
  clean_wf
  refine sat_lcM (stL g n) PyData.int (fun i => if decide (i < 0) = true then some (.int i) else none) ?_
  clean_wf
  refine ⟨fun i hi => ?_, ?_⟩
  · clean_wf
    refine if_dec (fun h1 => ?_) (fun h1 => ?_)
    · clean_wf
      rw [decide_eq_true h1]; rfl
    · rw [decide_eq_false h1]; rfl
  rw [fm_filter (fun i => decide (i < 0))]
  refine sat_nil (sat_sumI ?_)
  refine ⟨_, rfl, ?_⟩
  rw [dns_is]
  clean_wf
  rfl
theorem ups_downs_ok (h : Pf g n) : m_ups_downs [.list (lnD g n)] = .ok (.tuple [.int (ups g n), .int (dns g n)]) := by
  refine defP_ok ?_
  unfold b_ups_downs
  show Sat (runs _ [some (.list (lnD g n))]) _
  clean_wf
  refine sat_call_ok (check_profile_ok h) ?_
  clean_wf
  refine sat_call_ok (ups_by_ok g n) ?_
  clean_wf
  rfl
end
end K04

set_option Elab.async false
set_option linter.all false
set_option maxRecDepth 100000
set_option maxHeartbeats 1000000

namespace K04
open PySem Mir
section
variable {g : Nat → PP} {n : Nat} {f u d : Int}
/-- metres in a minute -/
structure Sp (f u d : Int) : Prop where
  f1 : 1 ≤ f
  f2 : f ≤ 1000
  u1 : 1 ≤ u
  u2 : u ≤ 1000
  d1 : 1 ≤ d
  d2 : d ≤ 1000
theorem mb {x X y Y : Int} (h1 : 0 ≤ x) (h2 : x ≤ X) (h3 : 0 ≤ y) (h4 : y ≤ Y) : 0 ≤ x * y ∧ x * y ≤ X * Y :=
  ⟨Int.mul_nonneg h1 h3, Int.le_trans (Int.mul_le_mul_of_nonneg_right h2 h3) (Int.mul_le_mul_of_nonneg_left h4 (by omega))⟩
def tn (M U D f u d : Int) : Int := M * u * d + U * f * d + D * f * u
def tm (M U D f u d : Int) : Int × Int := rd (tn M U D f u d) (f * u * d)
theorem Sp.b (h : Sp f u d) : 1 ≤ f * u * d ∧ f * u * d ≤ 1000000000 := by
  obtain ⟨a1, a2, a3, a4, a5, a6⟩ := h
  have h1 := mb (by omega : 0 ≤ f) a2 (by omega : 0 ≤ u) a4
  have h2 := mb h1.1 h1.2 (by omega : 0 ≤ d) a6
  have h3 := Int.mul_pos (Int.mul_pos (by omega : 0 < f) (by omega : 0 < u)) (by omega : 0 < d)
  omega
theorem tn_b (h : Sp f u d) {M U D B : Int} (hM : 0 ≤ M ∧ M ≤ B) (hU : 0 ≤ U ∧ U ≤ B) (hD : 0 ≤ D ∧ D ≤ B) : 0 ≤ tn M U D f u d ∧ tn M U D f u d ≤ 3000000 * B := by
  obtain ⟨a1, a2, a3, a4, a5, a6⟩ := h
  unfold tn
  have h1 := mb hM.1 hM.2 (by omega : 0 ≤ u) a4
  have h2 := mb h1.1 h1.2 (by omega : 0 ≤ d) a6
  have h3 := mb hU.1 hU.2 (by omega : 0 ≤ f) a2
  have h4 := mb h3.1 h3.2 (by omega : 0 ≤ d) a6
  have h5 := mb hD.1 hD.2 (by omega : 0 ≤ f) a2
  have h6 := mb h5.1 h5.2 (by omega : 0 ≤ u) a4
  omega
/-- what is small enough -/
def Bd (i : Int) : Prop := 0 ≤ i ∧ i ≤ 1000000000000
theorem tm_ok (h : Sp f u d) {M U D : Int} (hM : Bd M) (hU : Bd U) (hD : Bd D) : m_ratio [.int (tn M U D f u d), .int (f * u * d)] = .ok (ptD (tm M U D f u d)) := by
  have hb := h.b
  have ha := tn_b h hM hU hD
  have e : aB (tn M U D f u d) = tn M U D f u d := by unfold aB; rw [if_neg (by omega)]
  refine ratio_ok (by omega) ?_ (by omega)
  rw [e]
  have := (mb ha.1 ha.2 (by omega : 0 ≤ f * u * d) hb.2).2
  omega
theorem time_by_ok (h : Sp f u d) {M U D : Int} (hM : Bd M) (hU : Bd U) (hD : Bd D) : m_time_by [.int M, .int U, .int D, .tuple [.int f, .int u, .int d]] = .ok (ptD (tm M U D f u d)) := by
  refine defP_ok ?_
  unfold b_time_by
  show Sat (runs _ [some (.int M), some (.int U), some (.int D), some (.tuple [.int f, .int u, .int d]), none, none, none]) _
  obtain ⟨a1, a2, a3, a4, a5, a6⟩ := h
  clean_wf
  refine sat_call_ok (tm_ok ⟨a1, a2, a3, a4, a5, a6⟩ hM hU hD) ?_
  clean_wf
  rfl
theorem check_speeds_ok (h : Pf g n) (s : Sp f u d) : m_check_speeds [.list (lnD g n), .int f, .int u, .int d] = .ok .none := by
  refine defP_ok ?_
  unfold b_check_speeds
  show Sat (runs _ [some (.list (lnD g n)), some (.int f), some (.int u), some (.int d), none]) _
  clean_wf
  refine sat_call_ok (check_profile_ok h) ?_
  clean_wf
  refine sat_lcM [f, u, d] PyData.int (fun _ => some (.bool true)) ?_
  clean_wf
  refine ⟨fun i hi => ?_, ?_⟩
  · clean_wf
    refine sat_call_ok (is_within_int ?_) ?_
    · simp only [List.mem_cons, List.not_mem_nil, or_false] at hi
      obtain ⟨a1, a2, a3, a4, a5, a6⟩ := s
      omega
    clean_wf
    rfl
  refine sat_nil (sat_allT ?_)
  clean_wf
  refine sat_call_ok check_ok ?_
  clean_wf
  rfl
theorem lnD_last (g : Nat → PP) (n : Nat) : L2.atI (lnD g n) (-1) = some (ptD (g n)) := atI_last (lnD_len g n) (lnD_get (Nat.le_refl _))
theorem time_for_ok (h : Pf g n) (s : Sp f u d) (hM : Bd (g n).1) (hU : Bd (ups g n)) (hD : Bd (dns g n)) : m_time_for [.list (lnD g n), .int f, .int u, .int d] = .ok (ptD (tm (g n).1 (ups g n) (dns g n) f u d)) := by
  refine defP_ok ?_
  unfold b_time_for
  show Sat (runs _ [some (.list (lnD g n)), some (.int f), some (.int u), some (.int d), none, none]) _
  clean_wf
  refine sat_call_ok (check_speeds_ok h s) ?_
  clean_wf
  refine sat_call_ok (ups_by_ok g n) ?_
  clean_wf
  refine sat_atLc (lnD_last g n) ?_
  clean_wf
  refine sat_call_ok (time_by_ok s hM hU hD) ?_
  clean_wf
  rfl
theorem time_back_ok (h : Pf g n) (s : Sp f u d) (hM : Bd (g n).1) (hU : Bd (ups g n)) (hD : Bd (dns g n)) : m_time_back [.list (lnD g n), .int f, .int u, .int d] = .ok (ptD (tm (g n).1 (dns g n) (ups g n) f u d)) := by
  refine defP_ok ?_
  unfold b_time_back
  show Sat (runs _ [some (.list (lnD g n)), some (.int f), some (.int u), some (.int d), none, none]) _
  clean_wf
  refine sat_call_ok (check_speeds_ok h s) ?_
  clean_wf
  refine sat_call_ok (ups_by_ok g n) ?_
  clean_wf
  refine sat_atLc (lnD_last g n) ?_
  clean_wf
  refine sat_call_ok (time_by_ok s hM hD hU) ?_
  clean_wf
  rfl
/-! the checker's own look -/
theorem are_told_pairs_ok (g : Nat → PP) (n : Nat) : m_are_told_pairs [.list (lnD g n)] = .ok (.bool true) := by
  refine defP_ok ?_
  unfold b_are_told_pairs
  show Sat (runs _ [some (.list (lnD g n)), none]) _
  clean_wf
  refine sat_lcM (List.range (n + 1)) (fun i => ptD (g i)) (fun _ => some (.bool true)) ?_
  clean_wf
  refine ⟨lnD_eq g n, fun i hi => ?_, ?_⟩
  · clean_wf
    refine sat_call_ok (is_integer_int _) ?_
    clean_wf
    rfl
  · refine sat_nil (sat_allT ?_)
    clean_wf
    rfl
theorem need_profile_ok (h : Pf g n) : m_need_profile [.list (lnD g n)] = .ok .none := by
  refine defP_ok ?_
  unfold b_need_profile
  show Sat (runs _ [some (.list (lnD g n)), none, none, none]) _
  have h1 := h.n1
  have h2 := h.n2
  have hl := lnD_len g n
  clean_wf
  refine sat_call_ok (are_told_pairs_ok g n) ?_
  clean_wf
  refine sat_call_ok check_ok ?_
  clean_wf
  refine sat_lcM (List.range (n + 1)) (fun i => ptD (g i)) (fun _ => some (.bool true)) ?_
  clean_wf
  refine ⟨lnD_eq g n, fun i hi => ?_, ?_⟩
  · clean_wf
    refine sat_call_ok (is_integer_int _) ?_
    clean_wf
    rfl
  refine sat_nil (sat_allT ?_)
  clean_wf
  refine sat_atL (d := ptD (g 0)) (by omega) (lnD_get (by omega)) ?_
  clean_wf
  rw [decide_eq_true h.z]
  refine sat_call_ok check_ok ?_
  clean_wf
  refine sat_lcM (List.range (n + 1)) (fun i => ptD (g i)) (fun i => some (.int (g i).1)) ?_
  clean_wf
  refine ⟨lnD_eq g n, fun i hi => ?_, ?_⟩
  · clean_wf
    rfl
  rw [fm_some, show (List.range (n + 1)).map (fun i => PyData.int (g i).1) = (mt g n).map PyData.int by unfold mt; rw [List.map_map]; rfl]
  clean_wf
  refine sat_call_ok (are_ascending_ok (mt_asc h)) ?_
  clean_wf
  refine sat_call_ok check_ok ?_
  clean_wf
  rfl
end
end K04

set_option Elab.async false
set_option linter.all false
set_option maxRecDepth 100000
set_option maxHeartbeats 1000000

namespace K04
open PySem Mir
section
variable {g : Nat → PP} {n : Nat} {f u d : Int}
theorem takes_time_ok (h : Pf g n) (s : Sp f u d) (hM : Bd (g n).1) (hU : Bd (ups g n)) (hD : Bd (dns g n)) (a b : Int) : m_takes_time [.list (lnD g n), .int f, .int u, .int d, .int a, .int b] = .ok (.bool (decide (a = (tm (g n).1 (ups g n) (dns g n) f u d).1 ∧ b = (tm (g n).1 (ups g n) (dns g n) f u d).2))) := by
  refine defP_ok ?_
  unfold b_takes_time
  show Sat (runs _ [some (.list (lnD g n)), some (.int f), some (.int u), some (.int d), some (.int a), some (.int b), none, none, none, none, none, none, none, none]) _
  have ht := tm_ok s hM hU hD
  obtain ⟨a1, a2, a3, a4, a5, a6⟩ := s
  clean_wf
  refine sat_call_ok (need_profile_ok h) ?_
  clean_wf
  refine sat_lcM [f, u, d] PyData.int (fun _ => some (.bool true)) ?_
  clean_wf
  refine ⟨fun i hi => ?_, ?_⟩
  · clean_wf
    refine sat_call_ok (is_within_int ?_) ?_
    · simp only [List.mem_cons, List.not_mem_nil, or_false] at hi
      omega
    clean_wf
    rfl
  refine sat_nil (sat_allT ?_)
  clean_wf
  refine sat_lcM (List.range n) (prD g) (fun i => some (.int (st g i))) ?_
  clean_wf
  refine sat_cutL1 ?_
  clean_wf
  refine sat_lft (ln_zip g n) ⟨rfl, fun i hi => ?_, ?_⟩
  · clean_wf
    rfl
  rw [fm_some, show (List.range n).map (fun i => PyData.int (st g i)) = (stL g n).map PyData.int by unfold stL; rw [List.map_map]; rfl]
  clean_wf
  refine sat_lcM (stL g n) PyData.int (fun i => if decide (0 < i) = true then some (.int i) else none) ?_
  clean_wf
  refine ⟨fun i hi => ?_, ?_⟩
  · clean_wf
    refine if_dec (fun h1 => ?_) (fun h1 => ?_)
    · clean_wf
      rw [decide_eq_true h1]; rfl
    · rw [decide_eq_false h1]; rfl
  rw [fm_filter (fun i => decide (0 < i))]
  refine sat_nil (sat_sumI ?_)
  rw [ups_is]
  clean_wf
  refine sat_lcM (stL g n) PyData.int (fun i => if decide (i < 0) = true then some (.int i) else none) ?_
  clean_wf
  refine ⟨fun i hi => ?_, ?_⟩
  · clean_wf
    refine if_dec (fun h1 => ?_) (fun h1 => ?_)
    · clean_wf
      rw [decide_eq_true h1]; rfl
    · rw [decide_eq_false h1]; rfl
  rw [fm_filter (fun i => decide (i < 0))]
  refine sat_nil (sat_sumI ?_)
  refine ⟨_, rfl, ?_⟩
  rw [dns_is]
  clean_wf
  refine sat_atLc (lnD_last g n) ?_
  clean_wf
  refine sat_call_ok ht ?_
  clean_wf
  refine sat_eqT rfl rfl ?_
  rw [eqv_pt (a, b) (tm (g n).1 (ups g n) (dns g n) f u d)]
  clean_wf
  rfl
theorem law_steps_ok (h : Pf g n) : m_law_steps [.list (lnD g n)] = .ok (iD (stL g n)) := by
  refine defP_ok ?_
  unfold b_law_steps
  show Sat (runs _ [some (.list (lnD g n)), none]) _
  have h2 := h.n2
  have hl := lnD_len g n
  have hz : sizeLine = 16777216 := sizeLine_eq
  clean_wf
  refine sat_lcM (List.range n) (fun i => .int (i : Nat)) (fun i => some (.int (st g i))) ?_
  clean_wf
  refine ⟨by rw [hl, hz]; omega, by rw [hl]; omega, ?_, fun i hi => ?_, ?_⟩
  · rw [hl, show (((n + 1 : Nat) : Int) - 1).toNat = n by omega]
    unfold rangeD
    exact List.map_congr_left fun i _ => by rw [Int.zero_add]
  · have hi := List.mem_range.mp hi
    clean_wf
    refine sat_atL (by omega) (by rw [show ((i : Int) + 1).toNat = i + 1 by omega]; exact lnD_get (by omega)) ?_
    clean_wf
    refine sat_atL (by omega) (by rw [Int.toNat_natCast]; exact lnD_get (by omega)) ?_
    clean_wf
    rfl
  · rw [fm_some, show (List.range n).map (fun i => PyData.int (st g i)) = (stL g n).map PyData.int by unfold stL; rw [List.map_map]; rfl]
    clean_wf
    rfl
end
/-! a drawn profile -/
theorem pick_ok {l : List PyData} {Q : PyData → Prop} (h0 : l ≠ []) (h : ∀ d ∈ l, Q d) : Sat (m_law_pick [.list l]) Q := by
  refine defD_sat ?_
  unfold b_law_pick
  show Sat (runs _ [none, some (.list l)]) _
  have hl : 0 < l.length := List.length_pos_iff.mpr h0
  clean_wf
  refine sat_take (by omega) fun v h1 h2 => ?_
  obtain ⟨k, rfl⟩ := Int.eq_ofNat_of_zero_le h1
  have hk : k < l.length := by omega
  refine sat_atL (i := (k : Int)) (d := l[k]) (by omega) (by rw [Int.toNat_natCast]; exact List.getElem?_eq_getElem hk) ?_
  clean_wf
  exact h _ (List.getElem_mem hk)
theorem okD_of {l : List PyData} (h : ∀ x ∈ l, x.plain = true ∧ x.depth ≤ 3) : okD (.list l) = true ∧ okD (.tuple l) = true := by
  have : ∀ l : List PyData, (∀ x ∈ l, x.plain = true ∧ x.depth ≤ 3) → PyData.plainAll l = true ∧ PyData.depthAll l ≤ 3 := by
    intro l
    induction l with
    | nil => intro _; exact ⟨rfl, Nat.zero_le _⟩
    | cons x r ih =>
      intro h
      obtain ⟨j1, j2⟩ := h x (.head _)
      obtain ⟨i1, i2⟩ := ih fun y hy => h y (.tail _ hy)
      refine ⟨?_, ?_⟩
      · show (PyData.plain x && PyData.plainAll r) = true
        rw [i1, j1]; rfl
      · show max (PyData.depth x) (PyData.depthAll r) ≤ 3
        omega
  obtain ⟨h1, h2⟩ := this l h
  constructor
  · show (PyData.plain (.list l) && decide (PyData.depth (.list l) ≤ 60)) = true
    have e1 : PyData.plain (.list l) = true := h1
    have e2 : PyData.depth (.list l) ≤ 60 := by
      show PyData.depthAll l + 1 ≤ 60
      omega
    rw [e1, decide_eq_true e2]; rfl
  · show (PyData.plain (.tuple l) && decide (PyData.depth (.tuple l) ≤ 60)) = true
    have e1 : PyData.plain (.tuple l) = true := h1
    have e2 : PyData.depth (.tuple l) ≤ 60 := by
      show PyData.depthAll l + 1 ≤ 60
      omega
    rw [e1, decide_eq_true e2]; rfl
theorem okD_ints (l : List Int) : okD (iD l) = true ∧ okD (.tuple (l.map .int)) = true := okD_of fun x hx => by
  obtain ⟨i, _, rfl⟩ := List.mem_map.mp hx
  exact ⟨rfl, by show 0 ≤ 3; omega⟩
abbrev fdD (g : Nat → PP) (k : Nat) : List PyData := (List.range k).map fun i => ptD (g i)
theorem okD_fd (g : Nat → PP) (k : Nat) : okD (.list (fdD g k)) = true := (okD_of fun x hx => by
  obtain ⟨i, _, rfl⟩ := List.mem_map.mp hx
  exact ⟨rfl, by show 1 ≤ 3; omega⟩).1
theorem fdD_snoc {g : Nat → PP} {k : Nat} {p : PP} : fdD g k ++ [ptD p] = fdD (fun i => if i = k then p else g i) (k + 1) := by
  unfold fdD
  rw [List.range_succ, List.map_append]
  congr 1
  · exact List.map_congr_left fun i hi => by
      have := List.mem_range.mp hi
      show ptD (g i) = ptD (if i = k then p else g i)
      rw [if_neg (by omega)]
  · simp
theorem eqv_nil (l : List PyData) : PyData.eqv (.list l) (.list []) = l.isEmpty := by cases l <;> rfl
/-- heights and metres are not great -/
structure Hb (g : Nat → PP) (n : Nat) : Prop where
  h : ∀ i, i ≤ n → -100000 ≤ (g i).2 ∧ (g i).2 ≤ 100000
  m : (g n).1 ≤ 100000
/-- as it is built, k points -/
structure Bt (far : Int) (g : Nat → PP) (k : Nat) (m : Int) : Prop where
  h : ∀ i, i < k → -100000 ≤ (g i).2 ∧ (g i).2 ≤ 100000
  up : ∀ i, i + 1 < k → (g i).1 < (g (i + 1)).1
  z : 0 < k → (g 0).1 = 0 ∧ (g (k - 1)).1 < m ∧ (g (k - 1)).1 ≤ m
  e : k = 0 → m = 0
  m0 : 0 ≤ m
  mx : m ≤ far * k
theorem Bt.snoc {far : Int} {g : Nat → PP} {k : Nat} {m hh v : Int} (b : Bt far g k m) (h1 : -100000 ≤ hh ∧ hh ≤ 100000) (h2 : 0 ≤ v ∧ v < far) : Bt far (fun i => if i = k then (m, hh) else g i) (k + 1) (m + 1 + v) := by
  have hk : (far : Int) * ((k + 1 : Nat) : Int) = far * k + far := by
    rw [show ((k + 1 : Nat) : Int) = (k : Int) + 1 by omega, Int.mul_add, Int.mul_one]
  have b5 := b.m0
  have b6 := b.mx
  refine ⟨fun i hi => ?_, fun i hi => ?_, fun _ => ⟨?_, ?_, ?_⟩, fun q => by omega, by omega, by omega⟩
  · show -100000 ≤ (if i = k then (m, hh) else g i).2 ∧ (if i = k then (m, hh) else g i).2 ≤ 100000
    by_cases q : i = k
    · rw [if_pos q]; exact h1
    · rw [if_neg q]; exact b.h i (by omega)
  · show (if i = k then (m, hh) else g i).1 < (if i + 1 = k then (m, hh) else g (i + 1)).1
    rw [if_neg (by omega)]
    by_cases q : i + 1 = k
    · rw [if_pos q]
      have := (b.z (by omega)).2.1
      rwa [show k - 1 = i by omega] at this
    · rw [if_neg q]; exact b.up i (by omega)
  · show (if 0 = k then (m, hh) else g 0).1 = 0
    by_cases q : 0 = k
    · rw [if_pos q]; exact b.e q.symm
    · rw [if_neg q]; exact (b.z (by omega)).1
  · show (if k + 1 - 1 = k then (m, hh) else g (k + 1 - 1)).1 < m + 1 + v
    rw [if_pos (by omega)]
    show m < _
    omega
  · show (if k + 1 - 1 = k then (m, hh) else g (k + 1 - 1)).1 ≤ m + 1 + v
    rw [if_pos (by omega)]
    show m ≤ _
    omega
theorem law_profile_ok {most far high : Int} (hm : 0 < most ∧ most ≤ 99) (hf : 0 < far ∧ far ≤ 900) (hh : 0 < high ∧ high ≤ 100000) {Q : PyData → Prop} (h : ∀ g n, Pf g n → Hb g n → Q (.list (lnD g n))) : Sat (m_law_profile [.int most, .int far, .int high]) Q := by
  refine defD_sat ?_
  unfold b_law_profile
  show Sat (runs _ [none, some (.int most), some (.int far), some (.int high), none, none, none, none]) _
  have hz : sizeLine = 16777216 := sizeLine_eq
  have h3 : 0 ≤ high / 3 ∧ high / 3 ≤ high := by omega
  clean_wf
  refine sat_for (fun xs k ρ => xs.length ≤ 100 ∧ 2 ≤ xs.length ∧ ∃ (g : Nat → PP) (m : Int) (o6 o7 : Option PyData), Bt far g k m ∧ ρ = [none, some (.int most), some (.int far), some (.int high), some (.list (fdD g k)), some (.int m), o6, o7]) ?_
  clean_wf
  refine sat_take (by omega) fun v v1 v2 => ?_
  clean_wf
  refine ⟨by omega, by omega, ⟨by rw [rangeD_len]; omega, by rw [rangeD_len]; omega, fun _ => (0, 0), 0, none, none, ⟨fun i hi => absurd hi (Nat.not_lt_zero _), fun i hi => absurd hi (Nat.not_lt_zero _), fun q => absurd q (Nat.lt_irrefl _), fun _ => rfl, by omega, by simp⟩, rfl⟩, fun k hk ρ => ?_, fun ρ => ?_⟩
  · rintro ⟨l1, l2, g, m, o6, o7, hb, rfl⟩
    rw [rangeD_get hk]
    clean_wf
    refine sat_take (by omega) fun w w1 w2 => ?_
    clean_wf
    have hl : (fdD g k).length < sizeLine := by rw [hz]; simp; rw [rangeD_len] at hk l1; omega
    refine sat_neT (okD_fd g k) rfl ?_
    rw [eqv_nil]
    cases k with
    | zero =>
      clean_wf
      refine sat_take (by omega) fun x x1 x2 => ?_
      clean_wf
      exact ⟨l1, l2, _, _, _, _, hb.snoc (hh := w - high / 3) (by omega) ⟨x1, x2⟩, by rw [← fdD_snoc]; rfl⟩
    | succ j =>
      rw [show (fdD g (j + 1)).isEmpty = false from by unfold fdD; simp]
      clean_wf
      refine sat_take (by omega) fun u u1 u2 => ?_
      clean_wf
      refine if_dec (fun q => ?_) (fun q => ?_)
      · clean_wf
        rw [show ((fdD g (j + 1)).length : Int) - 1 = (j : Nat) by simp]
        refine sat_atL (d := ptD (g j)) (by omega) (by rw [Int.toNat_natCast]; unfold fdD; rw [List.getElem?_map, List.getElem?_range (by omega)]; rfl) ?_
        clean_wf
        refine ⟨hl, ?_⟩
        clean_wf
        refine sat_take (by omega) fun x x1 x2 => ?_
        clean_wf
        exact ⟨l1, l2, _, _, _, _, hb.snoc (hh := (g j).2) (hb.h j (by omega)) ⟨x1, x2⟩, by rw [← fdD_snoc]; rfl⟩
      · clean_wf
        refine ⟨hl, ?_⟩
        clean_wf
        refine sat_take (by omega) fun x x1 x2 => ?_
        clean_wf
        exact ⟨l1, l2, _, _, _, _, hb.snoc (hh := w - high / 3) (by omega) ⟨x1, x2⟩, by rw [← fdD_snoc]; rfl⟩
  · rintro ⟨l1, l2, g, m, o6, o7, hb, rfl⟩
    generalize (rangeD 0 (2 + v).toNat).length = k at l1 l2 hb
    obtain ⟨n, rfl⟩ : ∃ n, k = n + 1 := ⟨k - 1, by omega⟩
    clean_wf
    rw [show fdD g (n + 1) = lnD g n from (lnD_eq g n).symm]
    have hz := hb.z (by omega)
    have hmx := hb.mx
    have hfar : far * ((n + 1 : Nat) : Int) ≤ 900 * 100 := by
      have h1 : far * ((n + 1 : Nat) : Int) ≤ 900 * ((n + 1 : Nat) : Int) := Int.mul_le_mul_of_nonneg_right (by omega) (by omega)
      omega
    refine h g n ⟨by omega, by omega, hz.1, fun i hi => hb.up i (by omega)⟩ ⟨fun i hi => hb.h i (by omega), ?_⟩
    have := hz.2.1
    rw [Nat.add_sub_cancel] at this
    omega
end K04

set_option Elab.async false
set_option linter.all false
set_option maxRecDepth 100000
set_option maxHeartbeats 1000000

namespace K04
open PySem Mir
section
variable {g : Nat → PP} {n : Nat} {f u d : Int}
theorem ups_succ (g : Nat → PP) (n : Nat) : ups g (n + 1) = ups g n + po (st g n) := by
  unfold ups; rw [List.range_succ, List.map_append, List.sum_append]; simp
theorem dns_succ (g : Nat → PP) (n : Nat) : dns g (n + 1) = dns g n + po (-(st g n)) := by
  unfold dns; rw [List.range_succ, List.map_append, List.sum_append]; simp
theorem po_is (i : Int) : po i - po (-i) = i ∧ po i + po (-i) = aB i ∧ 0 ≤ po i ∧ 0 ≤ po (-i) ∧ (po i ≤ aB i) ∧ po (-i) ≤ aB i := by
  unfold po aB
  split <;> split <;> split <;> omega
theorem ups_sub (g : Nat → PP) : ∀ n, ups g n - dns g n = (g n).2 - (g 0).2
  | 0 => by show (0 : Int) - 0 = _; omega
  | n + 1 => by
    have ih := ups_sub g n
    have := (po_is (st g n)).1
    rw [ups_succ, dns_succ]
    unfold st at *
    omega
theorem ups_add (g : Nat → PP) : ∀ n, ups g n + dns g n = ((stL g n).map aB).sum
  | 0 => rfl
  | n + 1 => by
    have ih := ups_add g n
    have := (po_is (st g n)).2.1
    have e : stL g (n + 1) = stL g n ++ [st g n] := by unfold stL; rw [List.range_succ, List.map_append]; rfl
    rw [ups_succ, dns_succ, e, List.map_append, List.sum_append, ← ih]
    simp
    omega
theorem ups_b (h : ∀ i, i ≤ n → -100000 ≤ (g i).2 ∧ (g i).2 ≤ 100000) : (0 ≤ ups g n ∧ ups g n ≤ 200000 * n) ∧ 0 ≤ dns g n ∧ dns g n ≤ 200000 * n := by
  induction n with
  | zero => exact ⟨⟨Int.le_refl _, Int.le_refl _⟩, Int.le_refl _, Int.le_refl _⟩
  | succ n ih =>
    have ih := ih fun i hi => h i (by omega)
    have p := po_is (st g n)
    have h1 := h n (by omega)
    have h2 := h (n + 1) (by omega)
    have q : aB (st g n) ≤ 200000 := by
      unfold aB st
      split <;> omega
    rw [ups_succ, dns_succ]
    omega
theorem Pf.m_le (h : Pf g n) {i : Nat} (hi : i ≤ n) : 0 ≤ (g i).1 ∧ (g i).1 ≤ (g n).1 := by
  have hz := h.z
  constructor
  · by_cases e : i = 0
    · subst e; omega
    · have := h.lt (i := 0) (j := i) (by omega) hi
      omega
  · by_cases e : i = n
    · subst e; omega
    · have := h.lt (i := i) (j := n) (by omega) (Nat.le_refl _)
      omega
theorem Hb.bd (h : Pf g n) (b : Hb g n) : Bd (g n).1 ∧ Bd (ups g n) ∧ Bd (dns g n) := by
  have h1 := ups_b b.h
  have h2 := h.m_le (Nat.le_refl n)
  have h3 := b.m
  have h4 := h.n2
  unfold Bd
  omega
/-! from its other end -/
def tr (g : Nat → PP) (n : Nat) (i : Nat) : PP := ((g n).1 - (g (n - i)).1, (g (n - i)).2)
theorem tr_pf (h : Pf g n) : Pf (tr g n) n := ⟨h.n1, h.n2, by show (g n).1 - (g (n - 0)).1 = 0; rw [Nat.sub_zero]; omega, fun i hi => by
  show (g n).1 - (g (n - i)).1 < (g n).1 - (g (n - (i + 1))).1
  have := h.up (n - (i + 1)) (by omega)
  rw [show n - (i + 1) + 1 = n - i by omega] at this
  omega⟩
theorem tr_hb (h : Pf g n) (b : Hb g n) : Hb (tr g n) n := ⟨fun i hi => b.h (n - i) (by omega), by
  show (g n).1 - (g (n - n)).1 ≤ 100000
  rw [Nat.sub_self, h.z]
  have := b.m
  omega⟩
theorem tr_m (h : Pf g n) : (tr g n n).1 = (g n).1 := by
  show (g n).1 - (g (n - n)).1 = _
  rw [Nat.sub_self, h.z]
  omega
theorem tr_st {i : Nat} (hi : i < n) : st (tr g n) i = -(st g (n - 1 - i)) := by
  unfold st tr
  show (g (n - (i + 1))).2 - (g (n - i)).2 = _
  rw [show n - 1 - i = n - (i + 1) by omega, show n - (i + 1) + 1 = n - i by omega]
  omega
theorem range_rev : ∀ n : Nat, (List.range n).reverse = (List.range n).map fun i => n - 1 - i := by
  intro n
  apply List.ext_getElem
  · simp
  · intro i h1 h2
    simp
theorem sum_rev : ∀ l : List Int, l.reverse.sum = l.sum
  | [] => rfl
  | a :: l => by
    rw [List.reverse_cons, List.sum_append, sum_rev l, List.sum_cons]
    simp
    omega
theorem sum_back (F : Nat → Int) (n : Nat) : ((List.range n).map fun i => F (n - 1 - i)).sum = ((List.range n).map F).sum := by
  rw [show (List.range n).map (fun i => F (n - 1 - i)) = ((List.range n).map fun i => n - 1 - i).map F by rw [List.map_map]; rfl, ← range_rev, List.map_reverse, sum_rev]
theorem tr_ups (g : Nat → PP) (n : Nat) : ups (tr g n) n = dns g n := by
  unfold ups dns
  rw [← sum_back]
  congr 1
  exact List.map_congr_left fun i hi => by
    have hi := List.mem_range.mp hi
    rw [tr_st (by omega), show n - 1 - (n - 1 - i) = i by omega]
theorem tr_dns (g : Nat → PP) (n : Nat) : dns (tr g n) n = ups g n := by
  unfold ups dns
  rw [← sum_back]
  congr 1
  exact List.map_congr_left fun i hi => by
    have hi := List.mem_range.mp hi
    rw [tr_st (by omega), Int.neg_neg, show n - 1 - (n - 1 - i) = i by omega]
theorem tm_comm (M U D f u d : Int) : tm M U D f d u = tm M D U f u d := by
  unfold tm tn
  rw [show M * d * u + U * f * u + D * f * d = M * u * d + D * f * d + U * f * u by rw [show M * d * u = M * u * d by ac_rfl]; omega, show f * d * u = f * u * d by ac_rfl]
/-! parts -/
theorem law_plus_ok (p q : PP) (hp : 0 < p.2 ∧ p.2 ≤ 1000000000) (hq : 0 < q.2 ∧ q.2 ≤ 1000000000) (h1 : 0 ≤ p.1 ∧ p.1 ≤ 10000000000000000000) (h2 : 0 ≤ q.1 ∧ q.1 ≤ 10000000000000000000) :
    m_law_plus [ptD p, ptD q] = .ok (ptD (rd (p.1 * q.2 + q.1 * p.2) (p.2 * q.2))) := by
  refine defP_ok ?_
  unfold b_law_plus
  show Sat (runs _ [some (ptD p), some (ptD q)]) _
  have k1 := mb (by omega : 0 ≤ p.2) hp.2 (by omega : 0 ≤ q.2) hq.2
  have k2 := mb h1.1 h1.2 (by omega : 0 ≤ q.2) hq.2
  have k3 := mb h2.1 h2.2 (by omega : 0 ≤ p.2) hp.2
  have k4 := Int.mul_pos hp.1 hq.1
  have e : aB (p.1 * q.2 + q.1 * p.2) = p.1 * q.2 + q.1 * p.2 := by unfold aB; rw [if_neg (by omega)]
  have k5 := (mb (by omega : 0 ≤ p.1 * q.2 + q.1 * p.2) (Int.le_refl _) k1.1 k1.2).2
  clean_wf
  refine sat_call_ok (law_ratio_ok k4 (by rw [e]; omega) (by omega)) ?_
  clean_wf
  rfl
theorem tm_add (s : Sp f u d) {M U D M' U' D' : Int} :
    rd ((tm M U D f u d).1 * (tm M' U' D' f u d).2 + (tm M' U' D' f u d).1 * (tm M U D f u d).2) ((tm M U D f u d).2 * (tm M' U' D' f u d).2) = tm (M + M') (U + U') (D + D') f u d := by
  have hb := s.b
  have hb0 : 0 < f * u * d := by omega
  have s1 := rd_same (tn M U D f u d) hb0
  have s2 := rd_same (tn M' U' D' f u d) hb0
  have p1 := rd_pos (a := tn M U D f u d) hb0
  have p2 := rd_pos (a := tn M' U' D' f u d) hb0
  have e : tn (M + M') (U + U') (D + D') f u d = tn M U D f u d + tn M' U' D' f u d := by
    unfold tn
    simp only [Int.add_mul]
    omega
  unfold tm
  rw [e]
  generalize tn M U D f u d = a at *
  generalize tn M' U' D' f u d = b at *
  generalize f * u * d = c at *
  refine rd_eq (Int.mul_pos p1 p2) hb0 ?_
  generalize (rd a c).1 = x at *
  generalize (rd a c).2 = y at *
  generalize (rd b c).1 = z at *
  generalize (rd b c).2 = w at *
  rw [Int.add_mul, Int.add_mul, show x * w * c = (x * c) * w by ac_rfl, show z * y * c = (z * c) * y by ac_rfl, s1, s2]
  ac_rfl
end
end K04

set_option Elab.async false
set_option linter.all false
set_option maxRecDepth 100000
set_option maxHeartbeats 1000000

namespace Mir
open PySem
section
variable {S : Type} {X : Str → Prop}
theorem sat_zip3 {ρ : Env} {a b c : E S} {Q : List PyData → Prop} (h : SatE X (ev a ρ) fun x => SatE X (ev b ρ) fun y => SatE X (ev c ρ) fun z => SatE X (lft (S := S) (zip3D x y z)) Q) : SatE X (evIt (.zip3 a b c) ρ) Q := by
  unfold evIt
  exact sat_bnd (h.imp fun x h => sat_bnd (h.imp fun y h => sat_bnd h))
theorem sat_asgM {ρ : Env} {F : Fl → Prop} {ts : List TgI} {e : E S} (h : SatE X (ev e ρ) fun d => ∃ ds, mixR ts d = .ok ds ∧ ds.length = (flatI ts).length ∧ F (.nx (setAll (flatI ts) ds ρ))) : SatE X (run (.asgM ts false e) ρ) F := by
  unfold run
  exact sat_bnd (h.imp fun d h => by
    obtain ⟨ds, h1, h2, h3⟩ := h
    exact sat_bnd (sat_lft h1 (by
      rw [if_pos ⟨h2, .inl rfl⟩]
      exact sat_ret h3)))
end
end Mir
namespace K04
open PySem Mir
section
variable {S : Type} {X : Str → Prop} {Q : PyData → Prop}
theorem sIx_up (n d : Nat) {i : Int} (h0 : 0 ≤ i) : HT.sIx n d (some i) = min i.toNat n := by
  by_cases h : i ≤ n
  · rw [sIx_nat' n d h0 h]
    omega
  · unfold HT.sIx
    simp only
    split <;> omega
theorem sIx_dn (n d : Nat) (h : 0 < n) : HT.sIx n d (some (-1)) = n - 1 := by
  unfold HT.sIx
  simp only
  split <;> omega
theorem sat_cutLab {l : List PyData} {a b : Int} (h0 : 0 ≤ a) (h1 : 0 ≤ b) (h : Q (.list ((l.drop a.toNat).take (b.toNat - a.toNat)))) : SatE X (lft (S := S) (cutX (.list l) (some a) (some b))) Q := sat_lft (by
  show R.ok (PyData.list (cutD l (some a) (some b))) = _
  congr 2
  unfold cutD
  rw [sIx_up _ _ h0, sIx_up _ _ h1]
  by_cases q : a.toNat ≤ l.length
  · rw [Nat.min_eq_left q]
    by_cases r : b.toNat ≤ l.length
    · rw [Nat.min_eq_left r]
    · rw [Nat.min_eq_right (by omega), List.take_of_length_le (by simp), List.take_of_length_le (by simp; omega)]
  · rw [Nat.min_eq_right (show l.length ≤ a.toNat by omega), List.drop_of_length_le (Nat.le_refl _), List.drop_of_length_le (show l.length ≤ a.toNat by omega)]
    simp) h
theorem sat_cutMid {l : List PyData} (h0 : 1 < l.length) (h : Q (.list ((l.drop 1).take (l.length - 2)))) : SatE X (lft (S := S) (cutX (.list l) (some 1) (some (-1)))) Q := sat_lft (by
  show R.ok (PyData.list (cutD l (some 1) (some (-1)))) = _
  unfold cutD
  rw [sIx_dn _ _ (show 0 < l.length by omega), sIx_up l.length 0 (show (0 : Int) ≤ 1 by omega), Nat.min_eq_left (show Int.toNat 1 ≤ l.length by omega)]
  rw [show Int.toNat 1 = 1 from rfl, show l.length - 1 - 1 = l.length - 2 by omega]) h
theorem sat_notinLf {x : PyData} {l : List PyData} (gx : okD x = true) (gl : okD (.list l) = true) (e : ∃ y ∈ l, PyData.eqv y x = true) (h : Q (.bool false)) : SatE X (lft (S := S) (cmpD .NotIn x (.list l))) Q := sat_lft (by
  show (if (okD x && okD (.list l)) = true then R.ok (PyData.bool (!l.any fun y => PyData.eqv y x)) else .bad) = _
  rw [gx, gl]
  have : (l.any fun y => PyData.eqv y x) = true := by
    obtain ⟨y, h1, h2⟩ := e
    exact List.any_eq_true.mpr ⟨y, h1, h2⟩
  rw [this]; rfl) h
theorem sat_isntT {b : Bool} (h : Q (.bool (!b))) : SatE X (lft (S := S) (cmpD .IsNot (.bool b) (.bool true))) Q := sat_lft (by cases b <;> rfl) h
theorem sat_isntF {b : Bool} (h : Q (.bool b)) : SatE X (lft (S := S) (cmpD .IsNot (.bool b) (.bool false))) Q := sat_lft (by cases b <;> rfl) h
end
section
variable {g : Nat → PP} {n : Nat} {f u d : Int}
theorem lnD_part {a k : Nat} (h : a + k ≤ n + 1) : ((lnD g n).drop a).take k = (List.range k).map fun i => ptD (g (a + i)) := by
  apply List.ext_getElem?
  intro i
  rw [List.getElem?_take, List.getElem?_map]
  split
  · rename_i q
    rw [List.getElem?_drop, lnD_get (by omega), List.getElem?_range q]
    rfl
  · rename_i q
    rw [List.getElem?_eq_none (l := List.range k) (by simp; omega)]
    rfl
theorem check_there_ok : m_check_there [.bool true] = .ok .none := by
  refine defP_ok ?_
  unfold b_check_there
  show Sat (runs _ [some (.bool true)]) _
  clean_wf
  rfl
theorem check_indexes_ok (h : Pf g n) {l : List Int} (hl : ∀ i ∈ l, 0 ≤ i ∧ i ≤ n) : m_check_indexes [.list (lnD g n), iD l] = .ok .none := by
  refine defP_ok ?_
  unfold b_check_indexes
  show Sat (runs _ [some (.list (lnD g n)), some (iD l), none]) _
  have hn := lnD_len g n
  clean_wf
  refine sat_call_ok (check_profile_ok h) ?_
  clean_wf
  refine sat_lcM l PyData.int (fun _ => some (.bool true)) ?_
  clean_wf
  refine ⟨fun i hi => ?_, ?_⟩
  · clean_wf
    refine sat_call_ok (is_integer_int _) ?_
    clean_wf
    rfl
  refine sat_nil (sat_allT ?_)
  clean_wf
  refine sat_call_ok check_ok ?_
  clean_wf
  refine sat_lcM l PyData.int (fun _ => some (.bool true)) ?_
  clean_wf
  refine ⟨fun i hi => ?_, ?_⟩
  · have := hl i hi
    clean_wf
    rw [decide_eq_true (show i < ((lnD g n).length : Int) by omega)]
  refine sat_nil (sat_allT ?_)
  clean_wf
  refine sat_call_ok check_there_ok ?_
  clean_wf
  rfl
/-- a part -/
def sg (g : Nat → PP) (a : Nat) (i : Nat) : PP := ((g (a + i)).1 - (g a).1, (g (a + i)).2)
theorem cut_ok (h : Pf g n) {a b : Nat} (hab : a < b) (hb : b ≤ n) : m_cut_profile [.list (lnD g n), .int a, .int b] = .ok (.list (lnD (sg g a) (b - a))) := by
  refine defP_ok ?_
  unfold b_cut_profile
  show Sat (runs _ [some (.list (lnD g n)), some (.int a), some (.int b), none, none]) _
  clean_wf
  refine sat_call_ok (check_profile_ok h) ?_
  clean_wf
  refine sat_call_ok (is_integer_int _) ?_
  clean_wf
  refine sat_call_ok (is_integer_int _) ?_
  clean_wf
  rw [decide_eq_true (show (a : Int) < b by omega)]
  refine sat_call_ok check_ok ?_
  clean_wf
  refine sat_call_ok (check_indexes_ok h (l := [(a : Int), (b : Int)]) fun i hi => ?_) ?_
  · simp only [List.mem_cons, List.not_mem_nil, or_false] at hi
    omega
  clean_wf
  refine sat_lcM (List.range (b - a + 1)) (fun i => ptD (g (a + i))) (fun i => some (ptD (sg g a i))) ?_
  clean_wf
  refine sat_cutLab (by omega) (by omega) ?_
  rw [show ((b : Int) + 1).toNat - (a : Int).toNat = b - a + 1 by omega, Int.toNat_natCast, lnD_part (by omega)]
  clean_wf
  refine ⟨fun i hi => ?_, ?_⟩
  · clean_wf
    refine sat_atL (by omega) (by rw [Int.toNat_natCast]; exact lnD_get (by omega)) ?_
    clean_wf
    rfl
  rw [fm_some]
  clean_wf
  rw [lnD_eq]
theorem sg_pf (h : Pf g n) {a b : Nat} (hab : a < b) (hb : b ≤ n) : Pf (sg g a) (b - a) := ⟨by omega, by have := h.n2; omega, by show (g (a + 0)).1 - (g a).1 = 0; rw [Nat.add_zero]; omega, fun i hi => by
  show (g (a + i)).1 - (g a).1 < (g (a + (i + 1))).1 - (g a).1
  have := h.up (a + i) (by omega)
  rw [show a + i + 1 = a + (i + 1) by omega] at this
  omega⟩
theorem sg_hb (h : Pf g n) (hh : Hb g n) {a b : Nat} (hab : a < b) (hb : b ≤ n) : Hb (sg g a) (b - a) := ⟨fun i hi => hh.h (a + i) (by omega), by
  show (g (a + (b - a))).1 - (g a).1 ≤ 100000
  rw [show a + (b - a) = b by omega]
  have := h.m_le hb
  have := h.m_le (show a ≤ n by omega)
  have := hh.m
  omega⟩
theorem lnD_congr {p q : Nat → PP} (h : ∀ i, i ≤ n → p i = q i) : lnD p n = lnD q n := by
  rw [lnD_eq, lnD_eq]
  exact List.map_congr_left fun i hi => by
    have := List.mem_range.mp hi
    rw [h i (by omega)]
theorem joined_ok {p q : Nat → PP} {n m : Nat} (hp : Pf p n) (hq : Pf q m) (hs : n + m ≤ 99) {r : Nat → PP} (h1 : ∀ i, i ≤ n → r i = p i) (h2 : ∀ i, 1 ≤ i → i ≤ m → r (n + i) = ((q i).1 + (p n).1, (q i).2 + ((p n).2 - (q 0).2))) :
    m_joined_profiles [.list (lnD p n), .list (lnD q m)] = .ok (.list (lnD r (n + m))) := by
  refine defP_ok ?_
  unfold b_joined_profiles
  show Sat (runs _ [some (.list (lnD p n)), some (.list (lnD q m)), none, none, none, none]) _
  have hl1 := lnD_len p n
  have hl2 := lnD_len q m
  have hz : sizeLine = 16777216 := sizeLine_eq
  have hm := hq.n1
  clean_wf
  refine sat_call_ok (check_profile_ok hp) ?_
  clean_wf
  refine sat_call_ok (check_profile_ok hq) ?_
  clean_wf
  refine sat_atLc (lnD_last p n) ?_
  clean_wf
  refine sat_atLc (lnD_last p n) ?_
  clean_wf
  refine sat_atL (by omega) (lnD_get (i := 0) (by omega)) ?_
  clean_wf
  refine sat_lcM (List.range m) (fun i => ptD (q (1 + i))) (fun i => some (ptD (r (n + (1 + i))))) ?_
  clean_wf
  refine sat_cutL1 ?_
  rw [show (lnD q m).drop 1 = (List.range m).map fun i => ptD (q (1 + i)) by
    rw [← lnD_part (g := q) (n := m) (a := 1) (k := m) (by omega), List.take_of_length_le (by simp [lnD_len])]]
  clean_wf
  refine ⟨fun i hi => ?_, ?_⟩
  · have := List.mem_range.mp hi
    rw [h2 (1 + i) (by omega) (by omega)]
    clean_wf
    rfl
  rw [fm_some]
  refine sat_addL (by simp [hl1]; omega) ?_
  clean_wf
  have e : lnD r (n + m) = lnD p n ++ (List.range m).map fun i => ptD (r (n + (1 + i))) := by
    rw [lnD_eq, lnD_eq, show n + m + 1 = (n + 1) + m by omega, List.range_add, List.map_append, List.map_map]
    refine congr (congrArg HAppend.hAppend (List.map_congr_left fun i hi => ?_)) (List.map_congr_left fun i hi => ?_)
    · have := List.mem_range.mp hi
      rw [h1 i (by omega)]
    · show ptD (r (n + 1 + i)) = _
      rw [Nat.add_assoc]
  rw [e]
theorem cut_joined (h : Pf g n) {a : Nat} (h0 : 0 < a) (ha : a < n) : m_joined_profiles [.list (lnD (sg g 0) (a - 0)), .list (lnD (sg g a) (n - a))] = .ok (.list (lnD g n)) := by
  have hz := h.z
  have := joined_ok (sg_pf h h0 (by omega)) (sg_pf h ha (Nat.le_refl n)) (by have := h.n2; omega) (r := g) (fun i hi => by
    show g i = ((g (0 + i)).1 - (g 0).1, (g (0 + i)).2)
    rw [Nat.zero_add, hz, Int.sub_zero]) (fun i h1 h2 => by
    show g (a - 0 + i) = ((g (a + i)).1 - (g a).1 + ((g (0 + (a - 0))).1 - (g 0).1), (g (a + i)).2 + ((g (0 + (a - 0))).2 - (g (a + 0)).2))
    rw [Nat.sub_zero, Nat.zero_add, Nat.add_zero, hz]
    refine Prod.ext ?_ ?_
    · show (g (a + i)).1 = (g (a + i)).1 - (g a).1 + ((g a).1 - 0)
      omega
    · show (g (a + i)).2 = (g (a + i)).2 + ((g a).2 - (g a).2)
      omega)
  rwa [show a - 0 + (n - a) = n by omega] at this
theorem sg_ups {a : Nat} : ∀ {k : Nat}, ups g (a + k) = ups g a + ups (sg g a) k ∧ dns g (a + k) = dns g a + dns (sg g a) k
  | 0 => ⟨by show ups g a = _ + 0; omega, by show dns g a = _ + 0; omega⟩
  | k + 1 => by
    obtain ⟨h1, h2⟩ := sg_ups (a := a) (k := k)
    have e : st (sg g a) k = st g (a + k) := rfl
    rw [← Nat.add_assoc, ups_succ, dns_succ, ups_succ, dns_succ, h1, h2, e]
    omega
end
end K04

set_option Elab.async false
set_option linter.all false
set_option maxRecDepth 100000
set_option maxHeartbeats 1000000

namespace K04
open PySem Mir
section
variable {g : Nat → PP} {n : Nat} {t : Int}
/-! a walk that keeps some points -/
/-- the kept ones after so many: which, and how many but one -/
def kp (g : Nat → PP) (t : Int) : Nat → (Nat → Nat) × Nat
  | 0 => (fun _ => 0, 0)
  | j + 1 => if t ≤ aB ((g (j + 1)).2 - (g ((kp g t j).1 (kp g t j).2)).2) then (fun i => if i = (kp g t j).2 + 1 then j + 1 else (kp g t j).1 i, (kp g t j).2 + 1) else kp g t j
structure Kp (g : Nat → PP) (t : Int) (j : Nat) (c : Nat → Nat) (k : Nat) : Prop where
  z : c 0 = 0
  up : ∀ i, i < k → c i < c (i + 1)
  le : c k ≤ j
  far : ∀ i, i < k → t ≤ aB ((g (c (i + 1))).2 - (g (c i)).2)
  near : ∀ i m, i < k → c i < m → m < c (i + 1) → aB ((g m).2 - (g (c i)).2) < t
  rest : ∀ m, c k < m → m ≤ j → aB ((g m).2 - (g (c k)).2) < t
theorem kp_ok (g : Nat → PP) (t : Int) : ∀ j, Kp g t j (kp g t j).1 (kp g t j).2
  | 0 => ⟨rfl, fun i hi => absurd hi (Nat.not_lt_zero _), Nat.le_refl _, fun i hi => absurd hi (Nat.not_lt_zero _), fun i m hi => absurd hi (Nat.not_lt_zero _), fun m h1 h2 => absurd (Nat.lt_of_lt_of_le h1 h2) (Nat.not_lt_zero _)⟩
  | j + 1 => by
    have ih := kp_ok g t j
    unfold kp
    generalize kp g t j = p at ih
    obtain ⟨c, k⟩ := p
    obtain ⟨h1, h2, h3, h4, h5, h6⟩ := ih
    simp only at h1 h2 h3 h4 h5 h6
    show Kp g t (j + 1) (if t ≤ aB ((g (j + 1)).2 - (g (c k)).2) then (fun i => if i = k + 1 then j + 1 else c i, k + 1) else (c, k)).1 (if t ≤ aB ((g (j + 1)).2 - (g (c k)).2) then (fun i => if i = k + 1 then j + 1 else c i, k + 1) else (c, k)).2
    by_cases q : t ≤ aB ((g (j + 1)).2 - (g (c k)).2)
    · rw [if_pos q]
      refine ⟨?_, fun i hi => ?_, ?_, fun i hi => ?_, fun i m hi => ?_, ?_⟩
      · show (if 0 = k + 1 then j + 1 else c 0) = 0
        rw [if_neg (by omega), h1]
      · show (if i = k + 1 then j + 1 else c i) < (if i + 1 = k + 1 then j + 1 else c (i + 1))
        have hi : i < k + 1 := hi
        rw [if_neg (by omega)]
        by_cases r : i = k
        · rw [if_pos (by omega), r]; omega
        · rw [if_neg (by omega)]; exact h2 i (by omega)
      · show (if k + 1 = k + 1 then j + 1 else c (k + 1)) ≤ j + 1
        rw [if_pos rfl]; omega
      · show t ≤ aB ((g (if i + 1 = k + 1 then j + 1 else c (i + 1))).2 - (g (if i = k + 1 then j + 1 else c i)).2)
        have hi : i < k + 1 := hi
        rw [if_neg (by omega : ¬ i = k + 1)]
        by_cases r : i = k
        · rw [if_pos (by omega), r]; exact q
        · rw [if_neg (by omega)]; exact h4 i (by omega)
      · show (if i = k + 1 then j + 1 else c i) < m → m < (if i + 1 = k + 1 then j + 1 else c (i + 1)) → aB ((g m).2 - (g (if i = k + 1 then j + 1 else c i)).2) < t
        have hi : i < k + 1 := hi
        rw [if_neg (by omega : ¬ i = k + 1)]
        by_cases r : i = k
        · rw [if_pos (by omega), r]
          exact fun a b => h6 m a (by omega)
        · rw [if_neg (by omega)]; exact h5 i m (by omega)
      · show ∀ m, (if k + 1 = k + 1 then j + 1 else c (k + 1)) < m → m ≤ j + 1 → _
        rw [if_pos rfl]
        intro m a b
        omega
    · rw [if_neg q]
      refine ⟨h1, h2, by show c k ≤ j + 1; omega, h4, h5, fun m a b => ?_⟩
      by_cases r : m = j + 1
      · subst r
        show aB ((g (j + 1)).2 - (g (c k)).2) < t
        omega
      · exact h6 m a (by omega)
theorem Kp.mono {j : Nat} {c : Nat → Nat} {k : Nat} (h : Kp g t j c k) : ∀ {i l : Nat}, i < l → l ≤ k → c i < c l := by
  intro i l hil hl
  induction l with
  | zero => omega
  | succ l ih =>
    have := h.up l (by omega)
    by_cases e : i = l
    · subst e; exact this
    · have := ih (by omega) (by omega)
      omega
theorem Kp.le' {j : Nat} {c : Nat → Nat} {k : Nat} (h : Kp g t j c k) {i : Nat} (hi : i ≤ k) : c i ≤ c k := by
  by_cases e : i = k
  · rw [e]; exact Nat.le_refl _
  · exact Nat.le_of_lt (h.mono (by omega) (Nat.le_refl k))
theorem Kp.ge {j : Nat} {c : Nat → Nat} {k : Nat} (h : Kp g t j c k) : ∀ {i : Nat}, i ≤ k → i ≤ c i := by
  intro i hi
  induction i with
  | zero => exact Nat.zero_le _
  | succ i ih =>
    have := h.up i (by omega)
    have := ih (by omega)
    omega
/-- a thinned one: which, and how many but one -/
def thC (g : Nat → PP) (n : Nat) (t : Int) (i : Nat) : Nat := if i = (kp g t (n - 1)).2 + 1 then n else (kp g t (n - 1)).1 i
def thK (g : Nat → PP) (n : Nat) (t : Int) : Nat := (kp g t (n - 1)).2 + 1
abbrev thP (g : Nat → PP) (n : Nat) (t : Int) (i : Nat) : PP := g (thC g n t i)
structure Th (g : Nat → PP) (n : Nat) (t : Int) (c : Nat → Nat) (k : Nat) : Prop where
  k1 : 1 ≤ k
  z : c 0 = 0
  e : c k = n
  up : ∀ i, i < k → c i < c (i + 1)
  far : ∀ i, i + 1 < k → t ≤ aB ((g (c (i + 1))).2 - (g (c i)).2)
  near : ∀ i m, i < k → c i < m → m < c (i + 1) → aB ((g m).2 - (g (c i)).2) < t
theorem th_ok (h : 1 ≤ n) : Th g n t (thC g n t) (thK g n t) := by
  have hk := kp_ok g t (n - 1)
  unfold thC thK
  generalize kp g t (n - 1) = p at hk
  obtain ⟨c, k⟩ := p
  obtain ⟨h1, h2, h3, h4, h5, h6⟩ := hk
  simp only at h1 h2 h3 h4 h5 h6
  refine ⟨by omega, ?_, ?_, fun i hi => ?_, fun i hi => ?_, fun i m hi => ?_⟩
  · show (if 0 = k + 1 then n else c 0) = 0
    rw [if_neg (by omega), h1]
  · show (if k + 1 = k + 1 then n else c (k + 1)) = n
    rw [if_pos rfl]
  · show (if i = k + 1 then n else c i) < (if i + 1 = k + 1 then n else c (i + 1))
    have hi : i < k + 1 := hi
    rw [if_neg (by omega)]
    by_cases r : i = k
    · rw [if_pos (by omega), r]; omega
    · rw [if_neg (by omega)]; exact h2 i (by omega)
  · show t ≤ aB ((g (if i + 1 = k + 1 then n else c (i + 1))).2 - (g (if i = k + 1 then n else c i)).2)
    have hi : i + 1 < k + 1 := hi
    rw [if_neg (by omega : ¬ i = k + 1), if_neg (by omega)]
    exact h4 i (by omega)
  · show (if i = k + 1 then n else c i) < m → m < (if i + 1 = k + 1 then n else c (i + 1)) → aB ((g m).2 - (g (if i = k + 1 then n else c i)).2) < t
    have hi : i < k + 1 := hi
    rw [if_neg (by omega : ¬ i = k + 1)]
    by_cases r : i = k
    · rw [if_pos (by omega), r]
      exact fun a b => h6 m a (by omega)
    · rw [if_neg (by omega)]; exact h5 i m (by omega)
section
variable {c : Nat → Nat} {k : Nat}
theorem Th.mono (h : Th g n t c k) : ∀ {i l : Nat}, i < l → l ≤ k → c i < c l := by
  intro i l hil hl
  induction l with
  | zero => omega
  | succ l ih =>
    have := h.up l (by omega)
    by_cases e : i = l
    · subst e; exact this
    · have := ih (by omega) (by omega)
      omega
theorem Th.le (h : Th g n t c k) {i : Nat} (hi : i ≤ k) : c i ≤ n := by
  rw [← h.e]
  by_cases e : i = k
  · rw [e]; exact Nat.le_refl _
  · exact Nat.le_of_lt (h.mono (by omega) (Nat.le_refl k))
theorem Th.kn (h : Th g n t c k) : k ≤ n := by
  have : ∀ i, i ≤ k → i ≤ c i := by
    intro i hi
    induction i with
    | zero => exact Nat.zero_le _
    | succ i ih =>
      have := h.up i (by omega)
      have := ih (by omega)
      omega
  have := this k (Nat.le_refl _)
  rw [h.e] at this
  exact this
theorem Th.pf (h : Th g n t c k) (hp : Pf g n) : Pf (fun i => g (c i)) k := ⟨h.k1, by have := h.kn; have := hp.n2; omega, by show (g (c 0)).1 = 0; rw [h.z]; exact hp.z, fun i hi => hp.lt (h.up i hi) (h.le (by omega))⟩
theorem Th.hb (h : Th g n t c k) (hh : Hb g n) : Hb (fun i => g (c i)) k := ⟨fun i hi => hh.h _ (h.le hi), by show (g (c k)).1 ≤ _; rw [h.e]; exact hh.m⟩
theorem po_add (x y : Int) : po (x + y) ≤ po x + po y := by
  unfold po
  split <;> split <;> split <;> omega
theorem ups_far (g : Nat → PP) (a : Nat) : ∀ k, po ((g (a + k)).2 - (g a).2) ≤ ups g (a + k) - ups g a
  | 0 => by
    rw [Nat.add_zero, Int.sub_self, Int.sub_self]
    exact Int.le_refl _
  | k + 1 => by
    have ih := ups_far g a k
    have := po_add ((g (a + k)).2 - (g a).2) (st g (a + k))
    rw [show (g (a + k)).2 - (g a).2 + st g (a + k) = (g (a + (k + 1))).2 - (g a).2 by unfold st; rw [Nat.add_assoc]; omega] at this
    rw [← Nat.add_assoc, ups_succ, Nat.add_assoc]
    omega
theorem Th.ups (h : Th g n t c k) : ups (fun i => g (c i)) k ≤ K04.ups g n := by
  have : ∀ i, i ≤ k → K04.ups (fun i => g (c i)) i ≤ K04.ups g (c i) := by
    intro i hi
    induction i with
    | zero => rw [h.z]; exact Int.le_refl _
    | succ i ih =>
      have ih := ih (by omega)
      have h1 := h.up i (by omega)
      have h2 := ups_far g (c i) (c (i + 1) - c i)
      rw [show c i + (c (i + 1) - c i) = c (i + 1) by omega] at h2
      rw [ups_succ]
      have : st (fun i => g (c i)) i = (g (c (i + 1))).2 - (g (c i)).2 := rfl
      rw [this]
      omega
  have := this k (Nat.le_refl _)
  rwa [h.e] at this
end
/-! the two that walk -/
theorem kp_found (g : Nat → PP) (t : Int) (j : Nat) : fdD (fun i => g ((kp g t (j + 1)).1 i)) ((kp g t (j + 1)).2 + 1) = if t ≤ aB ((g (j + 1)).2 - (g ((kp g t j).1 (kp g t j).2)).2) then fdD (fun i => g ((kp g t j).1 i)) ((kp g t j).2 + 1) ++ [ptD (g (j + 1))] else fdD (fun i => g ((kp g t j).1 i)) ((kp g t j).2 + 1) := by
  rw [kp]
  split
  · rw [fdD_snoc]
    unfold fdD
    refine List.map_congr_left fun i hi => ?_
    show ptD (g (if i = (kp g t j).2 + 1 then j + 1 else (kp g t j).1 i)) = ptD (if i = (kp g t j).2 + 1 then g (j + 1) else g ((kp g t j).1 i))
    split <;> rfl
  · rfl
theorem fd_last (q : Nat → PP) (k : Nat) : L2.atI (fdD q (k + 1)) (-1) = some (ptD (q k)) := atI_last (n := k) (by simp) (by
  unfold fdD
  rw [List.getElem?_map, List.getElem?_range (by omega)]
  rfl)
theorem th_list (g : Nat → PP) (n : Nat) (t : Int) : fdD (fun i => g ((kp g t (n - 1)).1 i)) ((kp g t (n - 1)).2 + 1) ++ [ptD (g n)] = lnD (thP g n t) (thK g n t) := by
  rw [fdD_snoc, lnD_eq]
  unfold thP thK thC fdD
  refine List.map_congr_left fun i hi => ?_
  show ptD (if i = (kp g t (n - 1)).2 + 1 then g n else g ((kp g t (n - 1)).1 i)) = ptD (g (if i = (kp g t (n - 1)).2 + 1 then n else (kp g t (n - 1)).1 i))
  split <;> rfl
theorem kp_le (g : Nat → PP) (t : Int) (j : Nat) : (kp g t j).2 ≤ j := by
  have h := kp_ok g t j
  have := h.ge (Nat.le_refl _)
  have := h.le
  omega
theorem thinned_ok (h : Pf g n) (ht : 0 ≤ t ∧ t ≤ 100000) : m_thinned_profile [.list (lnD g n), .int t] = .ok (.list (lnD (thP g n t) (thK g n t))) := by
  refine defP_ok ?_
  unfold b_thinned_profile
  show Sat (runs _ [some (.list (lnD g n)), some (.int t), none, none]) _
  have hl := lnD_len g n
  have hz : sizeLine = 16777216 := sizeLine_eq
  have h1 := h.n1
  have h2 := h.n2
  clean_wf
  refine sat_call_ok (check_profile_ok h) ?_
  clean_wf
  refine sat_call_ok (is_within_int ht) ?_
  clean_wf
  refine sat_call_ok check_ok ?_
  clean_wf
  refine sat_atL (by omega) (lnD_get (i := 0) (by omega)) ?_
  clean_wf
  refine sat_for (fun _ j ρ => ∃ o3, ρ = [some (.list (lnD g n)), some (.int t), some (.list (fdD (fun i => g ((kp g t j).1 i)) ((kp g t j).2 + 1))), o3]) ?_
  clean_wf
  refine sat_cutMid (by omega) ?_
  rw [hl, show n + 1 - 2 = n - 1 by omega, lnD_part (by omega)]
  clean_wf
  refine ⟨⟨_, rfl⟩, fun j hj ρ => ?_, fun ρ => ?_⟩
  · rintro ⟨o3, rfl⟩
    rw [List.getElem_map, List.getElem_range, Nat.add_comm 1 j]
    have hkl := kp_le g t j
    rw [List.length_map, List.length_range] at hj
    clean_wf
    refine sat_atLc (fd_last _ _) ?_
    clean_wf
    refine if_dec (fun q => ?_) (fun q => ?_)
    · clean_wf
      refine ⟨by simp; omega, ?_⟩
      clean_wf
      exact ⟨_, by rw [kp_found, if_pos (show t ≤ aB ((g (j + 1)).2 - (g ((kp g t j).1 (kp g t j).2)).2) from q)]; rfl⟩
    · clean_wf
      exact ⟨_, by rw [kp_found, if_neg (show ¬ t ≤ aB ((g (j + 1)).2 - (g ((kp g t j).1 (kp g t j).2)).2) from q)]; rfl⟩
  · rintro ⟨o3, rfl⟩
    rw [List.length_map, List.length_range]
    have hkl := kp_le g t (n - 1)
    clean_wf
    refine sat_atLc (lnD_last g n) ?_
    clean_wf
    refine ⟨by simp; omega, ?_⟩
    clean_wf
    rw [← th_list]
theorem takes_thinned_ok (h : Pf g n) (ht : 0 ≤ t ∧ t ≤ 100000) {l : List PyData} (ho : okD (.list l) = true) : m_takes_thinned [.list (lnD g n), .int t, .list l] = .ok (.bool (PyData.eqv (.list l) (.list (lnD (thP g n t) (thK g n t))))) := by
  refine defP_ok ?_
  unfold b_takes_thinned
  show Sat (runs _ [some (.list (lnD g n)), some (.int t), some (.list l), none, none]) _
  have hl := lnD_len g n
  have hz : sizeLine = 16777216 := sizeLine_eq
  have h1 := h.n1
  have h2 := h.n2
  clean_wf
  refine sat_call_ok (need_profile_ok h) ?_
  clean_wf
  refine sat_call_ok (is_within_int ht) ?_
  clean_wf
  refine sat_atL (by omega) (lnD_get (i := 0) (by omega)) ?_
  clean_wf
  refine sat_for (fun _ j ρ => ∃ o3, ρ = [some (.list (lnD g n)), some (.int t), some (.list l), some (.list (fdD (fun i => g ((kp g t j).1 i)) ((kp g t j).2 + 1))), o3]) ?_
  clean_wf
  refine sat_cutMid (by omega) ?_
  rw [hl, show n + 1 - 2 = n - 1 by omega, lnD_part (by omega)]
  clean_wf
  refine ⟨⟨_, rfl⟩, fun j hj ρ => ?_, fun ρ => ?_⟩
  · rintro ⟨o3, rfl⟩
    rw [List.getElem_map, List.getElem_range, Nat.add_comm 1 j]
    have hkl := kp_le g t j
    rw [List.length_map, List.length_range] at hj
    clean_wf
    refine sat_atLc (fd_last _ _) ?_
    clean_wf
    refine if_dec (fun q => ?_) (fun q => ?_)
    · clean_wf
      refine ⟨by simp; omega, ?_⟩
      clean_wf
      exact ⟨_, by rw [kp_found, if_pos (show t ≤ aB ((g (j + 1)).2 - (g ((kp g t j).1 (kp g t j).2)).2) from q)]; rfl⟩
    · clean_wf
      exact ⟨_, by rw [kp_found, if_neg (show ¬ t ≤ aB ((g (j + 1)).2 - (g ((kp g t j).1 (kp g t j).2)).2) from q)]; rfl⟩
  · rintro ⟨o3, rfl⟩
    rw [List.length_map, List.length_range]
    have hkl := kp_le g t (n - 1)
    clean_wf
    refine sat_atLc (lnD_last g n) ?_
    clean_wf
    refine ⟨by simp; omega, ?_⟩
    clean_wf
    rw [th_list]
    refine sat_eqT ho ?_ ?_
    · rw [lnD_eq]; exact okD_fd _ _
    clean_wf
    rfl
end
end K04

set_option Elab.async false
set_option linter.all false
set_option maxRecDepth 100000
set_option maxHeartbeats 1000000

namespace K04
open PySem Mir
section
variable {g : Nat → PP} {n : Nat}
/-! what one sees -/
def bl (g : Nat → PP) (a b k : Nat) : Bool := decide (((g k).2 - (g a).2) * ((g b).1 - (g a).1) ≤ ((g b).2 - (g a).2) * ((g k).1 - (g a).1))
def sb (g : Nat → PP) (a b : Nat) : Bool := (List.range (b - (a + 1))).all fun i => bl g a b (a + 1 + i)
theorem sb_iff {a b : Nat} : sb g a b = true ↔ ∀ k, a < k → k < b → ((g k).2 - (g a).2) * ((g b).1 - (g a).1) ≤ ((g b).2 - (g a).2) * ((g k).1 - (g a).1) := by
  unfold sb bl
  simp only [List.all_eq_true, List.mem_range, decide_eq_true_eq]
  constructor
  · intro h k h1 h2
    have := h (k - (a + 1)) (by omega)
    rwa [show a + 1 + (k - (a + 1)) = k by omega] at this
  · intro h i hi
    exact h _ (by omega) (by omega)
theorem lnD_part' {a b : Nat} (ha : a ≤ n) (hb : b ≤ n) : ((lnD g n).drop (a + 1)).take (b - (a + 1)) = (List.range (b - (a + 1))).map fun i => ptD (g (a + 1 + i)) := by
  by_cases h : a + 1 ≤ b
  · exact lnD_part (by omega)
  · rw [show b - (a + 1) = 0 by omega]
    rfl
theorem sees_by_ok (hp : Pf g n) (hh : Hb g n) {i j : Nat} (hi : i ≤ n) (hj : j ≤ n) : m_sees_by [.list (lnD g n), .int i, .int j] = .ok (.bool (sb g (min i j) (max i j))) := by
  refine defP_ok ?_
  unfold b_sees_by
  show Sat (runs _ [some (.list (lnD g n)), some (.int i), some (.int j), none, none, none, none, none, none, none, none, none]) _
  clean_wf
  rw [show (if (j : Int) < i then (j : Int) else i) = ((min i j : Nat) : Int) by split <;> omega, show (if (j : Int) > i then (j : Int) else i) = ((max i j : Nat) : Int) by split <;> omega]
  have ha : min i j ≤ n := by omega
  have hb : max i j ≤ n := by omega
  generalize min i j = a at *
  generalize max i j = b at *
  have hha := hh.h a ha
  have hhb := hh.h b hb
  have hma := hp.m_le ha
  have hmb := hp.m_le hb
  have hm := hh.m
  refine sat_asgM ?_
  clean_wf
  refine sat_atL (by omega) (by rw [Int.toNat_natCast]; exact lnD_get ha) ?_
  clean_wf
  refine sat_atL (by omega) (by rw [Int.toNat_natCast]; exact lnD_get hb) ?_
  clean_wf
  refine sat_cutLab (by omega) (by omega) ?_
  rw [show ((a : Int) + 1).toNat = a + 1 by omega, Int.toNat_natCast, lnD_part' ha hb]
  clean_wf
  refine sat_lcM (List.range (b - (a + 1))) (fun i => ptD (g (a + 1 + i))) (fun i => some (.bool (bl g a b (a + 1 + i)))) ?_
  clean_wf
  refine ⟨fun i hi => ?_, ?_⟩
  · have hi := List.mem_range.mp hi
    have hk := hh.h (a + 1 + i) (by omega)
    have hmk := hp.m_le (show a + 1 + i ≤ n by omega)
    clean_wf
    rfl
  refine sat_nil (sat_allM ?_)
  clean_wf
  rfl
theorem sees_ok (hp : Pf g n) (hh : Hb g n) {i : Nat} (hi : i ≤ n) : m_sees [.list (lnD g n), .int i, .int i] = .ok (.bool true) := by
  refine defP_ok ?_
  unfold b_sees
  show Sat (runs _ [some (.list (lnD g n)), some (.int i), some (.int i)]) _
  clean_wf
  refine sat_call_ok (check_indexes_ok hp (l := [(i : Int), (i : Int)]) fun k hk => ?_) ?_
  · simp only [List.mem_cons, List.not_mem_nil, or_false] at hk
    omega
  clean_wf
  refine sat_call_ok (sees_by_ok hp hh hi hi) ?_
  have : sb g (min i i) (max i i) = true := sb_iff.mpr fun k h1 h2 => by omega
  rw [this]
  clean_wf
  rfl
def sP (g : Nat → PP) (i j : Nat) : Bool := decide (j ≠ i) && sb g (min i j) (max i j)
def seenL (g : Nat → PP) (n i : Nat) : List Nat := (List.range (n + 1)).filter (sP g i)
abbrev nD (l : List Nat) : List PyData := l.map fun i => .int (i : Nat)
theorem rangeD_nat (n : Nat) : rangeD 0 n = nD (List.range n) := by
  unfold rangeD
  exact List.map_congr_left fun i _ => by rw [Int.zero_add]
theorem seen_ok (hp : Pf g n) (hh : Hb g n) {i : Nat} (hi : i ≤ n) : m_seen_points [.list (lnD g n), .int i] = .ok (.list (nD (seenL g n i))) := by
  refine defP_ok ?_
  unfold b_seen_points
  show Sat (runs _ [some (.list (lnD g n)), some (.int i), none]) _
  have hl := lnD_len g n
  have hz : sizeLine = 16777216 := sizeLine_eq
  have hn := hp.n2
  clean_wf
  refine sat_call_ok (check_indexes_ok hp (l := [(i : Int)]) fun k hk => ?_) ?_
  · simp only [List.mem_cons, List.not_mem_nil, or_false] at hk
    omega
  clean_wf
  refine sat_lcM (List.range (n + 1)) (fun j => .int (j : Nat)) (fun j => if sP g i j = true then some (.int (j : Nat)) else none) ?_
  clean_wf
  refine ⟨by omega, by omega, ?_, fun j hj => ?_, ?_⟩
  · rw [hl, Int.toNat_natCast, rangeD_nat]
  · have hj := List.mem_range.mp hj
    clean_wf
    by_cases q : j = i
    · subst q
      rw [decide_eq_false (by omega)]
      clean_wf
      unfold sP
      rw [decide_eq_false (by omega)]
      rfl
    · rw [decide_eq_true (by omega)]
      clean_wf
      refine sat_call_ok (sees_by_ok hp hh hi (by omega)) ?_
      unfold sP
      rw [decide_eq_true q, Bool.true_and]
      refine if_bool (fun e => ?_) (fun e => ?_)
      · rw [e]; clean_wf; rfl
      · rw [e]; rfl
  · rw [fm_filter (sP g i) fun j => PyData.int (j : Nat)]
    clean_wf
    rfl
theorem seen_mem {i j : Nat} : j ∈ seenL g n i ↔ j ≤ n ∧ j ≠ i ∧ sb g (min i j) (max i j) = true := by
  unfold seenL sP
  simp only [List.mem_filter, List.mem_range, Bool.and_eq_true, decide_eq_true_eq]
  exact ⟨fun ⟨a, b, c⟩ => ⟨by omega, b, c⟩, fun ⟨a, b, c⟩ => ⟨by omega, b, c⟩⟩
theorem seen_sym {i j : Nat} (hi : i ≤ n) (h : j ∈ seenL g n i) : i ∈ seenL g n j := by
  rw [seen_mem] at *
  rw [Nat.min_comm, Nat.max_comm]
  exact ⟨hi, fun e => h.2.1 e.symm, h.2.2⟩
/-- those ahead -/
theorem seen_right {i : Nat} (hi : i ≤ n) : (seenL g n i).filter (fun j => decide (i < j)) = ((List.range (n - i)).map fun d => i + 1 + d).filter (sb g i) := by
  unfold seenL
  rw [List.filter_filter, show n + 1 = (i + 1) + (n - i) by omega, List.range_add, List.filter_append]
  have e1 : (List.range (i + 1)).filter (fun j => decide (i < j) && sP g i j) = [] := by
    rw [List.filter_eq_nil_iff]
    intro j hj
    have := List.mem_range.mp hj
    rw [decide_eq_false (by omega)]
    simp
  rw [e1, List.nil_append]
  refine List.filter_congr fun j hj => ?_
  obtain ⟨d, _, rfl⟩ := List.mem_map.mp hj
  unfold sP
  rw [decide_eq_true (by omega), decide_eq_true (by omega), Nat.min_eq_left (by omega), Nat.max_eq_right (by omega)]
  rfl
theorem sl_b (hp : Pf g n) (hh : Hb g n) {a b : Nat} (hab : a < b) (hb : b ≤ n) : 0 < (g b).1 - (g a).1 ∧ (g b).1 - (g a).1 ≤ 100000 ∧ -200000 ≤ (g b).2 - (g a).2 ∧ (g b).2 - (g a).2 ≤ 200000 := by
  have h1 := hp.lt hab hb
  have h2 := hp.m_le hb
  have h3 := hp.m_le (show a ≤ n by omega)
  have h4 := hh.h a (by omega)
  have h5 := hh.h b hb
  have h6 := hh.m
  omega
/-- a slope -/
def sl (g : Nat → PP) (a b : Nat) : PP := rd ((g b).2 - (g a).2) ((g b).1 - (g a).1)
theorem small_ratio {a b : Int} (h : -200000 ≤ a ∧ a ≤ 200000) (h2 : 0 < b ∧ b ≤ 100000) : aB a * b < 2 ^ 300 ∧ b < 2 ^ 300 := by
  have h3 : 0 ≤ aB a ∧ aB a ≤ 200000 := by unfold aB; split <;> omega
  have := (mb h3.1 h3.2 (by omega : 0 ≤ b) h2.2).2
  constructor <;> omega
theorem law_sl_ok (hp : Pf g n) (hh : Hb g n) {a b : Nat} (hab : a < b) (hb : b ≤ n) : m_law_ratio [.int ((g b).2 - (g a).2), .int ((g b).1 - (g a).1)] = .ok (ptD (sl g a b)) := by
  have h := sl_b hp hh hab hb
  have h2 := small_ratio ⟨h.2.2.1, h.2.2.2⟩ ⟨h.1, h.2.1⟩
  exact law_ratio_ok h.1 h2.1 h2.2
theorem rd_small {a b : Int} (h : -200000 ≤ a ∧ a ≤ 200000) (h2 : 0 < b ∧ b ≤ 100000) : -200000 ≤ (rd a b).1 ∧ (rd a b).1 ≤ 200000 ∧ 0 < (rd a b).2 ∧ (rd a b).2 ≤ 100000 := by
  have h1 := (rd_mul a b).1
  have h3 := gcd_pos a h2.1
  have h4 := rd_pos (a := a) h2.1
  have h5 := rd_le (a := a) h2.1
  refine ⟨?_, ?_, h4, by omega⟩
  · rcases Int.lt_or_le (rd a b).1 0 with q | q
    · have : (rd a b).1 * (Int.gcd a b : Int) ≤ (rd a b).1 * 1 := Int.mul_le_mul_of_nonpos_left (by omega) (by omega)
      omega
    · omega
  · rcases Int.lt_or_le (rd a b).1 0 with q | q
    · omega
    · have : (rd a b).1 * 1 ≤ (rd a b).1 * (Int.gcd a b : Int) := Int.mul_le_mul_of_nonneg_left (by omega) (by omega)
      omega
theorem is_at_most_ok {p q : PP} (h1 : 0 < p.2 ∧ p.2 ≤ 100000) (h2 : 0 < q.2 ∧ q.2 ≤ 100000) : m_law_is_at_most [ptD p, ptD q] = .ok (.bool (decide (p.1 * q.2 ≤ q.1 * p.2))) := by
  refine defP_ok ?_
  unfold b_law_is_at_most
  show Sat (runs _ [some (ptD p), some (ptD q)]) _
  clean_wf
  rfl
theorem sl_le {a b c d : Nat} (hab : (g a).1 < (g b).1) (hcd : (g c).1 < (g d).1) : (sl g a b).1 * (sl g c d).2 ≤ (sl g c d).1 * (sl g a b).2 ↔ ((g b).2 - (g a).2) * ((g d).1 - (g c).1) ≤ ((g d).2 - (g c).2) * ((g b).1 - (g a).1) := rd_le_iff (by omega) (by omega)
theorem fr_trans {a b c d e f : Int} (hb : 0 < b) (hd : 0 < d) (hf : 0 < f) (h1 : a * d ≤ c * b) (h2 : c * f ≤ e * d) : a * f ≤ e * b := by
  have h3 : a * d * f ≤ c * b * f := Int.mul_le_mul_of_nonneg_right h1 (by omega)
  have h4 : c * f * b ≤ e * d * b := Int.mul_le_mul_of_nonneg_right h2 (by omega)
  have h5 : (a * f) * d ≤ (e * b) * d := by
    rw [show a * f * d = a * d * f by ac_rfl, show e * b * d = e * d * b by ac_rfl]
    rw [show c * b * f = c * f * b by ac_rfl] at h3
    omega
  exact Int.le_of_mul_le_mul_right h5 hd
/-- the greatest slope so far tells -/
theorem best_tells (hp : Pf g n) {i b j : Nat} (hib : i < b) (hbj : b < j) (hj : j ≤ n) (hg : ∀ k, i < k → k < j → ((g k).2 - (g i).2) * ((g b).1 - (g i).1) ≤ ((g b).2 - (g i).2) * ((g k).1 - (g i).1)) :
    decide ((sl g i b).1 * (sl g i j).2 ≤ (sl g i j).1 * (sl g i b).2) = sb g i j := by
  have m1 := hp.lt hib (by omega)
  have m2 := hp.lt (show i < j by omega) hj
  rw [Bool.eq_iff_iff, decide_eq_true_iff, sl_le m1 m2, sb_iff]
  constructor
  · intro h k h1 h2
    have m3 := hp.lt h1 (by omega)
    exact fr_trans (by omega) (by omega) (by omega) (hg k h1 h2) h
  · intro h
    exact h b hib hbj
end
end K04

set_option Elab.async false
set_option linter.all false
set_option maxRecDepth 100000
set_option maxHeartbeats 1000000

namespace K04
open PySem Mir
theorem sat_mix {S : Type} {X : Str → Prop} {ρ : Mir.Env} {ts : List TgI} {ds xs : List PyData} {Q : Mir.Env → Prop} (e : mixD ts ds = some xs) (h : Q (setAll (flatI ts) xs ρ)) : SatE X (lft (S := S) (asg (.mix ts) (.tuple ds) ρ)) Q := sat_lft (by
  unfold asg
  simp only [e]) h
section
variable {g : Nat → PP} {n : Nat}
/-! the steepest -/
abbrev ezD (g : Nat → PP) (i : Nat) : PyData := .tuple [.int (i : Nat), .tuple [ptD (g i), ptD (g (i + 1))]]
theorem ln_ezip (g : Nat → PP) (n : Nat) : enumZipD (.list (lnD g n)) (.list ((lnD g n).drop 1)) = .ok ((List.range n).map (ezD g)) := by
  show R.ok (((lnD g n).zip ((lnD g n).drop 1)).zipIdx.map fun p => PyData.tuple [.int p.2, .tuple [p.1.1, p.1.2]]) = _
  congr 1
  apply List.ext_getElem?
  intro i
  rw [List.getElem?_map, List.getElem?_zipIdx]
  by_cases h : i < n
  · have e1 := lnD_get (g := g) (n := n) (i := i) (by omega)
    have e2 : ((lnD g n).drop 1)[i]? = some (ptD (g (i + 1))) := by
      rw [List.getElem?_drop, show 1 + i = i + 1 by omega]
      exact lnD_get (by omega)
    rw [(List.getElem?_zip_eq_some (z := (ptD (g i), ptD (g (i + 1))))).mpr ⟨e1, e2⟩, List.getElem?_map, List.getElem?_range h]
    simp
  · rw [List.getElem?_eq_none (by simp [lnD_len]; omega), List.getElem?_eq_none (by simp; omega)]
    rfl
/-- metres of a stretch -/
def wd (g : Nat → PP) (i : Nat) : Int := (g (i + 1)).1 - (g i).1
/-- the first of the greatest slopes before k -/
structure Stp (g : Nat → PP) (k b : Nat) : Prop where
  lt : b < k
  top : ∀ i, i < k → st g i * wd g b ≤ st g b * wd g i
  fst : ∀ i, i < b → st g i * wd g b < st g b * wd g i
def T3 (x y z : Int) : PyData := .tuple [.int x, .int y, .int z]
theorem fr_lt {a b c d e f : Int} (hb : 0 < b) (hd : 0 < d) (hf : 0 < f) (h1 : a * d ≤ c * b) (h2 : c * f < e * d) : a * f < e * b := by
  have h3 : a * d * f ≤ c * b * f := Int.mul_le_mul_of_nonneg_right h1 (by omega)
  have h4 : c * f * b < e * d * b := Int.mul_lt_mul_of_pos_right h2 hb
  have h5 : (a * f) * d < (e * b) * d := by
    rw [show a * f * d = a * d * f by ac_rfl, show e * b * d = e * d * b by ac_rfl]
    rw [show c * b * f = c * f * b by ac_rfl] at h3
    omega
  exact Int.lt_of_mul_lt_mul_right h5 (by omega)
theorem Stp.go {k b : Nat} (hp : Pf g n) (h : Stp g k b) (hk : k < n) : (st g k * wd g b > st g b * wd g k → Stp g (k + 1) k) ∧ (¬ st g k * wd g b > st g b * wd g k → Stp g (k + 1) b) := by
  have pw : ∀ i, i < n → 0 < wd g i := fun i hi => by have := hp.up i hi; unfold wd; omega
  have hl := h.lt
  constructor
  · intro q
    have q2 : st g b * wd g k < st g k * wd g b := q
    refine ⟨by omega, fun i hi => ?_, fun i hi => ?_⟩
    · by_cases e : i = k
      · subst e; exact Int.le_refl _
      · exact Int.le_of_lt (fr_lt (pw i (by omega)) (pw b (by omega)) (pw k hk) (h.top i (by omega)) q2)
    · exact fr_lt (pw i (by omega)) (pw b (by omega)) (pw k hk) (h.top i (by omega)) q2
  · intro q
    refine ⟨by omega, fun i hi => ?_, h.fst⟩
    by_cases e : i = k
    · subst e; omega
    · exact h.top i (by omega)
theorem steepest_ok (hp : Pf g n) (hh : Hb g n) : ∃ b, Stp g n b ∧ m_steepest [.list (lnD g n)] = .ok (.tuple [ptD (rd (st g b) (wd g b)), .int (b : Nat)]) := by
  have h1 := hp.n1
  suffices h : ∃ d, m_steepest [.list (lnD g n)] = .ok d ∧ ∃ b, Stp g n b ∧ d = .tuple [ptD (rd (st g b) (wd g b)), .int (b : Nat)] by
    obtain ⟨d, h2, b, h3, rfl⟩ := h
    exact ⟨b, h3, h2⟩
  refine defP_sat ?_
  unfold b_steepest
  show Sat (runs _ [some (.list (lnD g n)), none, none, none, none, none, none]) _
  clean_wf
  refine sat_call_ok (check_profile_ok hp) ?_
  clean_wf
  refine sat_for (fun _ k ρ => ∃ d o2 o3 o4 o5 o6, ((k = 0 ∧ d = PyData.none) ∨ ∃ b, Stp g k b ∧ d = T3 (st g b) (wd g b) (b : Nat)) ∧ ρ = [some (.list (lnD g n)), some d, o2, o3, o4, o5, o6]) ?_
  clean_wf
  refine sat_cutL1 ?_
  clean_wf
  refine sat_lft (ln_ezip g n) ⟨⟨_, _, _, _, _, _, .inl ⟨rfl, rfl⟩, rfl⟩, fun k hk ρ => ?_, fun ρ => ?_⟩
  · rintro ⟨d, o2, o3, o4, o5, o6, hd, rfl⟩
    rw [List.length_map, List.length_range] at hk
    rw [List.getElem_map, List.getElem_range]
    refine sat_mix rfl ?_
    have hb := sl_b hp hh (Nat.lt_succ_self k) (show k + 1 ≤ n by omega)
    clean_wf
    rcases hd with ⟨rfl, rfl⟩ | ⟨b, hs, rfl⟩
    · clean_wf
      refine ⟨_, _, _, _, _, _, .inr ⟨0, ⟨by omega, fun i hi => ?_, fun i hi => absurd hi (Nat.not_lt_zero _)⟩, rfl⟩, rfl⟩
      rw [show i = 0 by omega]
      exact Int.le_refl _
    · have hb2 := sl_b hp hh (Nat.lt_succ_self b) (show b + 1 ≤ n by have := hs.lt; omega)
      have e1 : (g (b + 1)).1 - (g b).1 = wd g b := rfl
      have e2 : (g (b + 1)).2 - (g b).2 = st g b := rfl
      rw [e1, e2] at hb2
      unfold T3
      clean_wf
      obtain ⟨k1, k2⟩ := hs.go hp hk
      refine if_dec (fun q => ?_) (fun q => ?_)
      · clean_wf
        exact ⟨_, _, _, _, _, _, .inr ⟨k, k1 q, rfl⟩, rfl⟩
      · clean_wf
        exact ⟨_, _, _, _, _, _, .inr ⟨b, k2 q, rfl⟩, rfl⟩
  · rintro ⟨d, o2, o3, o4, o5, o6, hd, rfl⟩
    rw [List.length_map, List.length_range] at hd
    rcases hd with ⟨q, _⟩ | ⟨b, hs, rfl⟩
    · omega
    · have hb2 := sl_b hp hh (Nat.lt_succ_self b) (show b + 1 ≤ n by have := hs.lt; omega)
      have e1 : (g (b + 1)).1 - (g b).1 = wd g b := rfl
      have e2 : (g (b + 1)).2 - (g b).2 = st g b := rfl
      rw [e1, e2] at hb2
      have h2 := small_ratio ⟨hb2.2.2.1, hb2.2.2.2⟩ ⟨hb2.1, hb2.2.1⟩
      unfold T3
      clean_wf
      refine sat_call_ok (ratio_ok hb2.1 h2.1 h2.2) ?_
      clean_wf
      exact ⟨b, hs, rfl⟩
/-! the highest -/
abbrev enD (g : Nat → PP) (i : Nat) : PyData := .tuple [.int (i : Nat), ptD (g i)]
theorem ln_enum (g : Nat → PP) (n : Nat) : enumD (.list (lnD g n)) = .ok ((List.range (n + 1)).map (enD g)) := by
  show R.ok ((lnD g n).zipIdx.map fun p => PyData.tuple [.int p.2, p.1]) = _
  congr 1
  apply List.ext_getElem?
  intro i
  rw [List.getElem?_map, List.getElem?_zipIdx]
  by_cases h : i < n + 1
  · rw [lnD_get (g := g) (n := n) (i := i) (by omega), List.getElem?_map, List.getElem?_range h]
    simp
  · rw [List.getElem?_eq_none (by simp [lnD_len]; omega), List.getElem?_eq_none (by simp; omega)]
    rfl
theorem highest_ok (hp : Pf g n) : ∃ b, (b ≤ n ∧ (∀ i, i ≤ n → (g i).2 ≤ (g b).2) ∧ ∀ i, i < b → (g i).2 < (g b).2) ∧ m_highest [.list (lnD g n)] = .ok (.int (b : Nat)) := by
  suffices h : ∃ d, m_highest [.list (lnD g n)] = .ok d ∧ ∃ b : Nat, (b ≤ n ∧ (∀ i, i ≤ n → (g i).2 ≤ (g b).2) ∧ ∀ i, i < b → (g i).2 < (g b).2) ∧ d = .int (b : Nat) by
    obtain ⟨d, h2, b, h3, rfl⟩ := h
    exact ⟨b, h3, h2⟩
  refine defP_sat ?_
  unfold b_highest
  show Sat (runs _ [some (.list (lnD g n)), none, none, none]) _
  clean_wf
  refine sat_call_ok (check_profile_ok hp) ?_
  clean_wf
  refine sat_lcM (List.range (n + 1)) (enD g) (fun i => some (T2 (-(g i).2) (i : Nat))) ?_
  clean_wf
  refine sat_lft (ln_enum g n) ⟨rfl, fun i hi => ?_, ?_⟩
  · refine lcf_i (sat_mix rfl ?_)
    clean_wf
    rfl
  rw [fm_some]
  have e : (List.range (n + 1)).map (fun i => T2 (-(g i).2) (i : Nat)) = ((List.range (n + 1)).map fun i => -(g i).2).zipIdx.map fun p => T2 p.1 (p.2 : Nat) := by
    apply List.ext_getElem?
    intro i
    rw [List.getElem?_map, List.getElem?_map, List.getElem?_zipIdx, List.getElem?_map]
    by_cases h : i < n + 1
    · rw [List.getElem?_range h]; simp
    · rw [List.getElem?_eq_none (by simp; omega)]; rfl
  have hne : (List.range (n + 1)).map (fun i => -(g i).2) ≠ [] := by simp
  have hg : ∀ i, ((List.range (n + 1)).map fun i => -(g i).2)[i]? = if i < n + 1 then some (-(g i).2) else none := fun i => by
    rw [List.getElem?_map]
    split
    · rename_i h
      rw [List.getElem?_range h]; rfl
    · rw [List.getElem?_eq_none (by simp; omega)]; rfl
  rw [e]
  refine sat_nil (sat_minT hne fun k m h1 h2 h3 => ?_)
  rw [hg] at h1
  split at h1
  · rename_i hk
    cases h1
    clean_wf
    refine ⟨k, ⟨by omega, fun i hi => ?_, fun i hi => ?_⟩, rfl⟩
    · have := h2 (-(g i).2) (List.mem_map.mpr ⟨i, List.mem_range.mpr (by omega), rfl⟩)
      omega
    · have := h3 i (-(g i).2) hi (by rw [hg, if_pos (by omega)])
      omega
  · cases h1
end
end K04

set_option Elab.async false
set_option linter.all false
set_option maxRecDepth 100000
set_option maxHeartbeats 1000000

namespace K04
open PySem Mir
section
variable {g : Nat → PP} {n : Nat}
/-! level stretches -/
abbrev lc (g : Nat → PP) (j i : Nat) : Nat := (kp g 1 j).1 i
abbrev lk (g : Nat → PP) (j : Nat) : Nat := (kp g 1 j).2
abbrev lvP (g : Nat → PP) (i : Nat) : PyData := .tuple [.int (i : Nat), .int (g i).2]
def lvD (g : Nat → PP) (j : Nat) : List PyData := (List.range (lk g j + 1)).map fun i => lvP g (lc g j i)
theorem aB_one {x : Int} : 1 ≤ aB x ↔ x ≠ 0 := by unfold aB; split <;> omega
theorem lvD_succ (g : Nat → PP) (j : Nat) : lvD g (j + 1) = if (g (lc g j (lk g j))).2 ≠ (g (j + 1)).2 then lvD g j ++ [lvP g (j + 1)] else lvD g j := by
  unfold lvD
  have q : (1 ≤ aB ((g (j + 1)).2 - (g (lc g j (lk g j))).2)) ↔ (g (lc g j (lk g j))).2 ≠ (g (j + 1)).2 := by rw [aB_one]; omega
  unfold lc lk at *
  rw [kp]
  by_cases h : (g ((kp g 1 j).1 (kp g 1 j).2)).2 ≠ (g (j + 1)).2
  · rw [if_pos h, if_pos (q.mpr h)]
    show (List.range ((kp g 1 j).2 + 1 + 1)).map (fun i => lvP g (if i = (kp g 1 j).2 + 1 then j + 1 else (kp g 1 j).1 i)) = _
    rw [List.range_succ, List.map_append]
    congr 1
    · exact List.map_congr_left fun i hi => by
        have := List.mem_range.mp hi
        rw [if_neg (by omega)]
    · simp
  · rw [if_neg h, if_neg (fun z => h (q.mp z))]
theorem lvD_len (g : Nat → PP) (j : Nat) : (lvD g j).length = lk g j + 1 := by unfold lvD; simp
theorem lvD_get {j i : Nat} (h : i ≤ lk g j) : (lvD g j)[i]? = some (lvP g (lc g j i)) := by
  unfold lvD
  rw [List.getElem?_map, List.getElem?_range (by omega)]
  rfl
theorem levels_ok (hn : n ≤ 99) : m_levels_of [.list (lnD g n)] = .ok (.list (lvD g n)) := by
  refine defP_ok ?_
  unfold b_levels_of
  show Sat (runs _ [some (.list (lnD g n)), none, none, none, none]) _
  have hz : sizeLine = 16777216 := sizeLine_eq
  clean_wf
  refine sat_for (fun _ k ρ => ∃ l o2 o3 o4, ((k = 0 ∧ l = []) ∨ ∃ j, k = j + 1 ∧ l = lvD g j) ∧ ρ = [some (.list (lnD g n)), some (.list l), o2, o3, o4]) ?_
  clean_wf
  refine sat_lft (ln_enum g n) ⟨⟨_, _, _, _, .inl ⟨rfl, rfl⟩, rfl⟩, fun k hk ρ => ?_, fun ρ => ?_⟩
  · rintro ⟨l, o2, o3, o4, hd, rfl⟩
    rw [List.length_map, List.length_range] at hk
    rw [List.getElem_map, List.getElem_range]
    refine sat_mix rfl ?_
    rcases hd with ⟨rfl, rfl⟩ | ⟨j, rfl, rfl⟩
    · clean_wf
      exact ⟨_, _, _, _, .inr ⟨0, rfl, rfl⟩, rfl⟩
    · have hl := lvD_len g j
      have hkl := kp_le g 1 j
      have e := lvD_succ g j
      clean_wf
      refine sat_atLc (atI_last hl (lvD_get (Nat.le_refl _))) ?_
      clean_wf
      refine if_dec (fun q => ?_) (fun q => ?_)
      · clean_wf
        refine ⟨by rw [hl]; unfold lk; omega, ?_⟩
        clean_wf
        exact ⟨_, _, _, _, .inr ⟨j + 1, rfl, by rw [e, if_pos q]⟩, rfl⟩
      · clean_wf
        exact ⟨_, _, _, _, .inr ⟨j + 1, rfl, by rw [e, if_neg q]⟩, rfl⟩
  · rintro ⟨l, o2, o3, o4, hd, rfl⟩
    rw [List.length_map, List.length_range] at hd
    rcases hd with ⟨q, _⟩ | ⟨j, hj, rfl⟩
    · omega
    · rw [show j = n by omega]
      clean_wf
      rfl
/-- is the middle one of three a top? -/
def tp (g : Nat → PP) (n i : Nat) : Bool := decide ((g (lc g n i)).2 < (g (lc g n (i + 1))).2) && decide ((g (lc g n (i + 2))).2 < (g (lc g n (i + 1))).2)
def smL (g : Nat → PP) (n : Nat) : List Nat := ((List.range (lk g n - 1)).filter (tp g n)).map fun i => lc g n (i + 1)
abbrev z3D (g : Nat → PP) (n i : Nat) : PyData := .tuple [lvP g (lc g n i), lvP g (lc g n (i + 1)), lvP g (lc g n (i + 2))]
theorem lv_zip (g : Nat → PP) (n : Nat) : zip3D (.list (lvD g n)) (.list ((lvD g n).drop 1)) (.list ((lvD g n).drop 2)) = .ok ((List.range (lk g n - 1)).map (z3D g n)) := by
  show R.ok (((lvD g n).zip (((lvD g n).drop 1).zip ((lvD g n).drop 2))).map fun p => PyData.tuple [p.1, p.2.1, p.2.2]) = _
  congr 1
  apply List.ext_getElem?
  intro i
  rw [List.getElem?_map]
  by_cases h : i < lk g n - 1
  · have e1 := lvD_get (g := g) (j := n) (i := i) (by omega)
    have e2 : ((lvD g n).drop 1)[i]? = some (lvP g (lc g n (i + 1))) := by
      rw [List.getElem?_drop, show 1 + i = i + 1 by omega]
      exact lvD_get (by omega)
    have e3 : ((lvD g n).drop 2)[i]? = some (lvP g (lc g n (i + 2))) := by
      rw [List.getElem?_drop, show 2 + i = i + 2 by omega]
      exact lvD_get (by omega)
    have e4 := (List.getElem?_zip_eq_some (z := (lvP g (lc g n (i + 1)), lvP g (lc g n (i + 2))))).mpr ⟨e2, e3⟩
    rw [(List.getElem?_zip_eq_some (z := (lvP g (lc g n i), (lvP g (lc g n (i + 1)), lvP g (lc g n (i + 2)))))).mpr ⟨e1, e4⟩, List.getElem?_map, List.getElem?_range h]
    rfl
  · rw [List.getElem?_eq_none (by simp [lvD_len]; omega), List.getElem?_eq_none (by simp; omega)]
    rfl
theorem sat_cutL2 {S : Type} {X : Str → Prop} {l : List PyData} {i : Int} {Q : PyData → Prop} (h0 : 0 ≤ i) (h : Q (.list (l.drop i.toNat))) : SatE X (lft (S := S) (cutX (.list l) (some i) none)) Q := sat_lft (by
  show R.ok (PyData.list (cutD l (some i) none)) = _
  congr 2
  unfold cutD
  rw [sIx_up _ _ h0, HT.sIx_none]
  by_cases q : i.toNat ≤ l.length
  · rw [Nat.min_eq_left q, List.take_of_length_le (by simp)]
  · rw [Nat.min_eq_right (by omega), List.drop_of_length_le (by omega), List.drop_of_length_le (by omega)]
    simp) h
theorem summits_ok (hp : Pf g n) : m_summits [.list (lnD g n)] = .ok (.list (nD (smL g n))) := by
  refine defP_ok ?_
  unfold b_summits
  show Sat (runs _ [some (.list (lnD g n)), none, none, none, none]) _
  clean_wf
  refine sat_call_ok (check_profile_ok hp) ?_
  clean_wf
  refine sat_call_ok (levels_ok hp.n2) ?_
  clean_wf
  refine sat_lcM (List.range (lk g n - 1)) (z3D g n) (fun i => if tp g n i = true then some (.int (lc g n (i + 1) : Nat)) else none) ?_
  refine sat_zip3 ?_
  clean_wf
  refine sat_cutL2 (by omega) ?_
  clean_wf
  refine sat_cutL2 (by omega) ?_
  refine sat_lft (lv_zip g n) ⟨rfl, fun i hi => ?_, ?_⟩
  · clean_wf
    unfold tp
    refine if_dec (fun q => ?_) (fun q => ?_)
    · clean_wf
      rw [decide_eq_true q]
      refine if_dec (fun r => ?_) (fun r => ?_)
      · clean_wf
        rw [decide_eq_true r]; rfl
      · rw [decide_eq_false r]; rfl
    · rw [decide_eq_false q]
      refine if_F ?_
      rfl
  rw [fm_filter (tp g n) fun i => PyData.int (lc g n (i + 1) : Nat)]
  clean_wf
  unfold smL
  rw [nD, List.map_map]
  rfl
/-- what holds of the stretches -/
theorem lv_near {i m : Nat} (hi : i < lk g n) (h1 : lc g n i ≤ m) (h2 : m < lc g n (i + 1)) : (g m).2 = (g (lc g n i)).2 := by
  by_cases e : m = lc g n i
  · rw [e]
  · have := (kp_ok g 1 n).near i m hi (Nat.lt_of_le_of_ne h1 (Ne.symm e)) h2
    have : ¬ (1 ≤ aB ((g m).2 - (g (lc g n i)).2)) := by unfold lc at *; omega
    rw [aB_one] at this
    omega
theorem lv_rest {m : Nat} (h1 : lc g n (lk g n) ≤ m) (h2 : m ≤ n) : (g m).2 = (g (lc g n (lk g n))).2 := by
  by_cases e : m = lc g n (lk g n)
  · rw [e]
  · have := (kp_ok g 1 n).rest m (Nat.lt_of_le_of_ne h1 (Ne.symm e)) h2
    have : ¬ (1 ≤ aB ((g m).2 - (g (lc g n (lk g n))).2)) := by unfold lc lk at *; omega
    rw [aB_one] at this
    omega
theorem lv_ne {i : Nat} (hi : i < lk g n) : (g (lc g n (i + 1))).2 ≠ (g (lc g n i)).2 := by
  have := (kp_ok g 1 n).far i hi
  rw [aB_one] at this
  unfold lc
  omega
/-- each point lies in one -/
theorem lv_in {m : Nat} (h : m ≤ n) : (∃ i, i < lk g n ∧ lc g n i ≤ m ∧ m < lc g n (i + 1)) ∨ lc g n (lk g n) ≤ m := by
  have : ∀ k, k ≤ lk g n → (∃ i, i < k ∧ lc g n i ≤ m ∧ m < lc g n (i + 1)) ∨ lc g n k ≤ m := by
    intro k hk
    induction k with
    | zero =>
      right
      have := (kp_ok g 1 n).z
      unfold lc
      omega
    | succ k ih =>
      rcases ih (by omega) with ⟨i, h1, h2, h3⟩ | h1
      · exact .inl ⟨i, by omega, h2, h3⟩
      · by_cases q : lc g n (k + 1) ≤ m
        · exact .inr q
        · exact .inl ⟨k, by omega, h1, by omega⟩
  exact this _ (Nat.le_refl _)
/-- a top of the plain kind -/
def Tp (g : Nat → PP) (n k : Nat) : Prop := 1 ≤ k ∧ k < n ∧ 0 < st g (k - 1) ∧ ∃ j, k ≤ j ∧ j < n ∧ (∀ i, k ≤ i → i < j → st g i = 0) ∧ st g j < 0
theorem sm_mem {k : Nat} : k ∈ smL g n ↔ ∃ i, i + 1 < lk g n ∧ k = lc g n (i + 1) ∧ (g (lc g n i)).2 < (g k).2 ∧ (g (lc g n (i + 2))).2 < (g k).2 := by
  unfold smL tp
  simp only [List.mem_map, List.mem_filter, List.mem_range, Bool.and_eq_true, decide_eq_true_eq]
  constructor
  · rintro ⟨i, ⟨h1, h2, h3⟩, rfl⟩
    exact ⟨i, by omega, rfl, h2, h3⟩
  · rintro ⟨i, h1, rfl, h2, h3⟩
    exact ⟨i, ⟨by omega, h2, h3⟩, rfl⟩
theorem lv_mono {i l : Nat} (h : i < l) (hl : l ≤ lk g n) : lc g n i < lc g n l := (kp_ok g 1 n).mono h hl
theorem lv_le {i : Nat} (h : i ≤ lk g n) : lc g n i ≤ n := Nat.le_trans ((kp_ok g 1 n).le' h) (kp_ok g 1 n).le
theorem sm_tp {k : Nat} : k ∈ smL g n ↔ Tp g n k := by
  rw [sm_mem]
  constructor
  · rintro ⟨i, h1, rfl, h2, h3⟩
    have m1 := lv_mono (g := g) (n := n) (show i < i + 1 by omega) (by omega)
    have m2 := lv_mono (g := g) (n := n) (show i + 1 < i + 2 by omega) (by omega)
    have m3 := lv_le (g := g) (n := n) (show i + 2 ≤ lk g n by omega)
    have a1 := lv_near (g := g) (n := n) (i := i) (m := lc g n (i + 1) - 1) (by omega) (by omega) (by omega)
    have a2 := fun m (h : lc g n (i + 1) ≤ m) (h' : m < lc g n (i + 2)) => lv_near (g := g) (n := n) (i := i + 1) (m := m) (by omega) h h'
    refine ⟨by omega, by omega, ?_, lc g n (i + 2) - 1, by omega, by omega, fun j j1 j2 => ?_, ?_⟩
    · unfold st
      rw [show lc g n (i + 1) - 1 + 1 = lc g n (i + 1) by omega, a1]
      omega
    · unfold st
      rw [a2 j j1 (by omega), a2 (j + 1) (by omega) (by omega)]
      omega
    · unfold st
      rw [show lc g n (i + 2) - 1 + 1 = lc g n (i + 2) by omega, a2 (lc g n (i + 2) - 1) (by omega) (by omega)]
      omega
  · rintro ⟨h1, h2, h3, j, j1, j2, j3, j4⟩
    have hk : ∀ m, k ≤ m → m ≤ j → (g m).2 = (g k).2 := by
      intro m m1 m2
      induction m with
      | zero => omega
      | succ m ih =>
        by_cases e : k = m + 1
        · rw [e]
        · have := ih (by omega) (by omega)
          have q := j3 m (by omega) (by omega)
          unfold st at q
          omega
    unfold st at h3 j4
    rw [show k - 1 + 1 = k by omega] at h3
    have hj := hk j j1 (Nat.le_refl j)
    -- in which stretch k lies
    have key : ∀ i, i ≤ lk g n → lc g n i ≤ k → (∀ m, lc g n i ≤ m → m ≤ k → (g m).2 = (g (lc g n i)).2) → lc g n i = k := by
      intro i hi c1 c2
      by_cases e : lc g n i = k
      · exact e
      · have q1 := c2 k c1 (Nat.le_refl k)
        have q2 := c2 (k - 1) (by omega) (by omega)
        omega
    have k0 : lc g n 0 = 0 := (kp_ok g 1 n).z
    rcases lv_in (g := g) (n := n) (m := k) (by omega) with ⟨i, i1, i2, i3⟩ | i1
    · have e := key i (by omega) i2 fun m a b => lv_near i1 a (by omega)
      cases i with
      | zero => omega
      | succ i =>
        have m1 := lv_mono (g := g) (n := n) (show i < i + 1 by omega) (by omega)
        have a1 := lv_near (g := g) (n := n) (i := i) (m := k - 1) (by omega) (by omega) (by omega)
        -- the next begins behind j
        have e2 : lc g n (i + 2) = j + 1 := by
          have m2 : lc g n (i + 1) < lc g n (i + 2) := lv_mono (g := g) (n := n) (show i + 1 < i + 2 by omega) (by omega)
          have z : (g (lc g n (i + 2))).2 ≠ (g (lc g n (i + 1))).2 := lv_ne (g := g) (n := n) i1
          rcases Nat.lt_trichotomy (lc g n (i + 2)) (j + 1) with q | q | q
          · exact absurd (by rw [hk (lc g n (i + 2)) (by omega) (by omega), e]) z
          · exact q
          · have := lv_near (g := g) (n := n) (i := i + 1) (m := j + 1) i1 (by omega) q
            rw [e] at this
            omega
        exact ⟨i, i1, e.symm, by omega, by rw [e2]; omega⟩
    · have e := key (lk g n) (Nat.le_refl _) i1 fun m a b => lv_rest a (by omega)
      have := lv_rest (g := g) (n := n) (m := j + 1) (by omega) (by omega)
      rw [e] at this
      omega
theorem sm_nodup : (smL g n).Nodup := by
  unfold smL
  rw [List.Nodup, List.pairwise_map]
  refine (List.pairwise_lt_range (n := lk g n - 1)).filter _ |>.imp_of_mem fun {a b} ha hb hab => ?_
  have := List.mem_range.mp (List.mem_filter.mp hb).1
  exact Nat.ne_of_lt (lv_mono (by omega) (by omega))
/-! heights between -/
theorem max_at {m : Int} {k : Nat} (hp : Pf g n) (hk : k < n) (hm : (g k).1 ≤ m) (hm2 : m ≤ (g (k + 1)).1) : ∃ b, b < n ∧ (g b).1 ≤ m ∧ (b = k ∨ (b = k + 1 ∧ m = (g (k + 1)).1)) ∧ ∀ i, i < n → (g i).1 ≤ m → i ≤ b := by
  by_cases q : m = (g (k + 1)).1 ∧ k + 1 < n
  · refine ⟨k + 1, q.2, by omega, .inr ⟨rfl, q.1⟩, fun i hi h => ?_⟩
    rcases Nat.lt_or_ge (k + 1) i with r | r
    · have := hp.lt r (by omega); omega
    · exact r
  · refine ⟨k, hk, hm, .inl rfl, fun i hi h => ?_⟩
    rcases Nat.lt_or_ge k i with r | r
    · by_cases e : i = k + 1
      · subst e
        exact absurd ⟨by omega, hi⟩ q
      · have := hp.lt (show k + 1 < i by omega) (by omega)
        omega
    · exact r
def hN (g : Nat → PP) (b : Nat) (m : Int) : Int := (g b).2 * wd g b + st g b * (m - (g b).1)
theorem height_by_ok (hp : Pf g n) (hh : Hb g n) {m : Int} (hm0 : 0 ≤ m) {b : Nat} (hb : b < n) (h1 : (g b).1 ≤ m) (hb2 : m ≤ (g (b + 1)).1) (h2 : ∀ i, i < n → (g i).1 ≤ m → i ≤ b) : m_height_by [.list (lnD g n), .int m, .int 1] = .ok (.tuple [.int (hN g b m), .int (wd g b)]) := by
  refine defP_ok ?_
  unfold b_height_by
  show Sat (runs _ [some (.list (lnD g n)), some (.int m), some (.int 1), none, none, none, none, none, none]) _
  have hl := lnD_len g n
  have hz : sizeLine = 16777216 := sizeLine_eq
  have hn := hp.n2
  have hs := sl_b hp hh (show b < b + 1 by omega) (show b + 1 ≤ n by omega)
  have hhb := hh.h b (by omega)
  have hmb := hp.m_le (show b ≤ n by omega)
  have hmx := hh.m
  clean_wf
  refine sat_lcM (List.range n) (fun j => .int (j : Nat)) (fun j => if decide ((g j).1 ≤ m) = true then some (.int (j : Nat)) else none) ?_
  clean_wf
  refine ⟨by omega, by omega, ?_, fun j hj => ?_, ?_⟩
  · rw [hl, show (((n + 1 : Nat) : Int) - 1).toNat = n by omega, rangeD_nat]
  · have hj := List.mem_range.mp hj
    clean_wf
    refine sat_atL (by omega) (by rw [Int.toNat_natCast]; exact lnD_get (by omega)) ?_
    clean_wf
    rw [Int.mul_one]
    refine if_dec (fun q => ?_) (fun q => ?_)
    · clean_wf
      rw [decide_eq_true q]; rfl
    · rw [decide_eq_false q]; rfl
  rw [fm_filter (fun j => decide ((g j).1 ≤ m)) fun j => PyData.int (j : Nat)]
  have e : ((List.range n).filter fun j => decide ((g j).1 ≤ m)).map (fun j => PyData.int (j : Nat)) = (((List.range n).filter fun j => decide ((g j).1 ≤ m)).map fun j => ((j : Nat) : Int)).map PyData.int := by rw [List.map_map]; rfl
  rw [e]
  have mem : ∀ i : Int, i ∈ ((List.range n).filter fun j => decide ((g j).1 ≤ m)).map (fun j => ((j : Nat) : Int)) ↔ ∃ j : Nat, (j < n ∧ (g j).1 ≤ m) ∧ (j : Int) = i := fun i => by
    simp only [List.mem_map, List.mem_filter, List.mem_range, decide_eq_true_eq]
  have hbm := (mem (b : Nat)).mpr ⟨b, ⟨hb, h1⟩, rfl⟩
  refine sat_nil (sat_maxE (List.ne_nil_of_mem hbm) fun x x1 x2 => ?_)
  obtain ⟨j, ⟨j1, j2⟩, rfl⟩ := (mem x).mp x1
  have := h2 j j1 j2
  have := x2 _ hbm
  obtain rfl : j = b := by omega
  clean_wf
  refine sat_asgM ?_
  clean_wf
  refine sat_atL (by omega) (by rw [Int.toNat_natCast]; exact lnD_get (by omega)) ?_
  clean_wf
  refine sat_atL (by omega) (by rw [show ((j : Int) + 1).toNat = j + 1 by omega]; exact lnD_get (by omega)) ?_
  clean_wf
  unfold hN wd st
  rw [Int.one_mul, Int.mul_one]
theorem height_at_ok (hp : Pf g n) (hh : Hb g n) {m : Int} (hm0 : 0 ≤ m) {b : Nat} (hb : b < n) (h1 : (g b).1 ≤ m) (hb2 : m ≤ (g (b + 1)).1) (h2 : ∀ i, i < n → (g i).1 ≤ m → i ≤ b) : m_height_at [.list (lnD g n), .int m] = .ok (ptD (rd (hN g b m) (wd g b))) := by
  refine defP_ok ?_
  unfold b_height_at
  show Sat (runs _ [some (.list (lnD g n)), some (.int m), none, none]) _
  have hs := sl_b hp hh (show b < b + 1 by omega) (show b + 1 ≤ n by omega)
  have hhb := hh.h b (by omega)
  have hmb := hp.m_le (show b + 1 ≤ n by omega)
  have hmb' := hp.m_le (show b ≤ n by omega)
  have hmx := hh.m
  clean_wf
  refine sat_call_ok (check_profile_ok hp) ?_
  clean_wf
  refine sat_call_ok (is_integer_int _) ?_
  clean_wf
  refine sat_call_ok check_ok ?_
  clean_wf
  refine sat_atLc (lnD_last g n) ?_
  clean_wf
  refine sat_call_ok (height_by_ok hp hh hm0 hb h1 hb2 h2) ?_
  clean_wf
  have hw : 0 < wd g b ∧ wd g b ≤ 100000 := by unfold wd; omega
  have hst : -200000 ≤ st g b ∧ st g b ≤ 200000 := by unfold st; omega
  have b1 : -10000000000 ≤ (g b).2 * wd g b ∧ (g b).2 * wd g b ≤ 10000000000 := by
    have a1 : (g b).2 * wd g b ≤ 100000 * wd g b := Int.mul_le_mul_of_nonneg_right hhb.2 (by omega)
    have a2 : -100000 * wd g b ≤ (g b).2 * wd g b := Int.mul_le_mul_of_nonneg_right hhb.1 (by omega)
    omega
  have b2 : -20000000000 ≤ st g b * (m - (g b).1) ∧ st g b * (m - (g b).1) ≤ 20000000000 := by
    have a1 : st g b * (m - (g b).1) ≤ 200000 * (m - (g b).1) := Int.mul_le_mul_of_nonneg_right hst.2 (by omega)
    have a2 : -200000 * (m - (g b).1) ≤ st g b * (m - (g b).1) := Int.mul_le_mul_of_nonneg_right hst.1 (by omega)
    omega
  have b3 : 0 ≤ aB (hN g b m) ∧ aB (hN g b m) ≤ 30000000000 := by unfold aB hN; split <;> omega
  have b4 := (mb b3.1 b3.2 (by omega : 0 ≤ wd g b) hw.2).2
  refine sat_call_ok (ratio_ok hw.1 (by omega) (by omega)) ?_
  clean_wf
  rfl
/-- as the law asks -/
theorem height_due {k b : Nat} {m : Int} (hp : Pf g n) (hk : k < n) (hb : b < n) (hc : b = k ∨ (b = k + 1 ∧ m = (g (k + 1)).1)) :
    ((rd (hN g b m) (wd g b)).1 - (g k).2 * (rd (hN g b m) (wd g b)).2) * ((g (k + 1)).1 - (g k).1) = st g k * (m - (g k).1) * (rd (hN g b m) (wd g b)).2 := by
  have hw : 0 < wd g b := by have := hp.up b hb; unfold wd; omega
  have hs := rd_same (hN g b m) hw
  generalize (rd (hN g b m) (wd g b)).1 = x at *
  generalize (rd (hN g b m) (wd g b)).2 = y at *
  unfold hN at hs
  rcases hc with rfl | ⟨rfl, rfl⟩
  · show (x - (g b).2 * y) * wd g b = _
    rw [Int.sub_mul, hs, Int.add_mul]
    have : (g b).2 * wd g b * y = (g b).2 * y * wd g b := by ac_rfl
    omega
  · rw [Int.sub_self, Int.mul_zero, Int.add_zero] at hs
    have e : x = (g (k + 1)).2 * y := by
      have : x * wd g (k + 1) = ((g (k + 1)).2 * y) * wd g (k + 1) := by rw [hs]; ac_rfl
      exact Int.eq_of_mul_eq_mul_right (by omega) this
    rw [e, ← Int.sub_mul]
    show st g k * y * _ = _
    ac_rfl
end
end K04

set_option Elab.async false
set_option linter.all false
set_option maxRecDepth 100000
set_option maxHeartbeats 1000000

namespace K04
open PySem Mir
def D0 : St (List Int) := (.asg [4, 5] false (.call ("steepest" : Str) m_steepest (.cons (.v 1) .nil)))
def D1_0 : St (List Int) := (.set 7 false false (.call ("_law_ratio" : Str) m_law_ratio (.cons (.sub (.v 2) (.v 6)) (.cons (.bin .Sub (.sub (.sub (.v 1) (.bin .Add (.v 6) (.int 1))) (.int 0)) (.sub (.sub (.v 1) (.v 6)) (.int 0))) .nil))))
def D1_1 : St (List Int) := (.ite (.or_ (.not_ (.call ("_law_is_at_most" : Str) m_law_is_at_most (.cons (.v 7) (.cons (.v 4) .nil)))) (.or_ (.and_ (.cmp .Lt (.v 6) (.v 5)) (.one (.cmp .Eq (.v 7) (.v 4)))) (.one (.and_ (.cmp .Eq (.v 6) (.v 5)) (.one (.cmp .NotEq (.v 7) (.v 4))))))) (.cons (.ret (.bl false)) .nil) .nil)
def D1 : St (List Int) := (.for_ [] (.nm 6) (.range1 (.bin .Sub (.v 3) (.int 1))) (.cons D1_0 (.cons D1_1 .nil)))
def D2 : St (List Int) := (.set 8 false false (.call ("highest" : Str) m_highest (.cons (.v 1) .nil)))
def D3 : St (List Int) := (.ite (.cmp .NotEq (.lc (.v 6) (.nm 6) (.range1 (.v 3)) (.or_ (.cmp .Gt (.sub (.sub (.v 1) (.v 6)) (.int 1)) (.sub (.sub (.v 1) (.v 8)) (.int 1))) (.one (.and_ (.cmp .Lt (.v 6) (.v 8)) (.one (.cmp .Eq (.sub (.sub (.v 1) (.v 6)) (.int 1)) (.sub (.sub (.v 1) (.v 8)) (.int 1))))))) [(("k" : Str), 6)]) (.lst .nil)) (.cons (.ret (.bl false)) .nil) .nil)
def D4_0 : St (List Int) := (.set 9 false false (.sub (.slL (.lc (.v 13) (.nm 13) (.range2 (.v 6) (.v 3)) (.cmp .Eq (.lc (.v 14) (.nm 14) (.range2 (.v 6) (.bin .Add (.v 13) (.int 1))) (.cmp .NotEq (.sub (.sub (.v 1) (.v 14)) (.int 1)) (.sub (.sub (.v 1) (.v 6)) (.int 1))) [(("i" : Str), 14)]) (.lst .nil)) [(("j" : Str), 13)]) (.neg (.int 1))) (.int 0)))
def D4_1 : St (List Int) := (.ite (.or_ (.cmp .Eq (.v 6) (.int 0)) (.or_ (.cmp .Eq (.v 9) (.bin .Sub (.v 3) (.int 1))) (.or_ (.cmp .GtE (.sub (.sub (.v 1) (.bin .Sub (.v 6) (.int 1))) (.int 1)) (.sub (.sub (.v 1) (.v 6)) (.int 1))) (.one (.cmp .GtE (.sub (.sub (.v 1) (.bin .Add (.v 9) (.int 1))) (.int 1)) (.sub (.sub (.v 1) (.v 6)) (.int 1))))))) (.cons (.ret (.bl false)) .nil) .nil)
def D4 : St (List Int) := (.for_ [] (.nm 6) (.of (.call ("summits" : Str) m_summits (.cons (.v 1) .nil))) (.cons D4_0 (.cons D4_1 .nil)))
def D5 : St (List Int) := (.ite (.cmp .NotEq (.blt .len (.cons (.call ("summits" : Str) m_summits (.cons (.v 1) .nil)) .nil)) (.blt .len (.cons (.lc (.v 6) (.nm 6) (.range2 (.int 1) (.bin .Sub (.v 3) (.int 1))) (.and_ (.cmp .Gt (.sub (.v 2) (.bin .Sub (.v 6) (.int 1))) (.int 0)) (.one (.cmp .Lt (.sub (.bin .Add (.lc (.v 15) (.nm 15) (.of (.slL (.v 2) (.v 6))) (.cmp .NotEq (.v 15) (.int 0)) [(("step" : Str), 15)]) (.lst (.cons (.int 1) .nil))) (.int 0)) (.int 0)))) [(("k" : Str), 6)]) .nil))) (.cons (.ret (.bl false)) .nil) .nil)
def D6_0 : St (List Int) := (.set 6 false false (.callS ("_law_take" : Str) m_law_take (.cons (.bin .Sub (.v 3) (.int 1)) .nil)))
def D6_1 : St (List Int) := (.set 11 false false (.bin .Add (.sub (.sub (.v 1) (.v 6)) (.int 0)) (.callS ("_law_take" : Str) m_law_take (.cons (.bin .Add (.bin .Sub (.sub (.sub (.v 1) (.bin .Add (.v 6) (.int 1))) (.int 0)) (.sub (.sub (.v 1) (.v 6)) (.int 0))) (.int 1)) .nil))))
def D6_2 : St (List Int) := (.asg [8, 12] false (.call ("height_at" : Str) m_height_at (.cons (.v 1) (.cons (.v 11) .nil))))
def D6_3 : St (List Int) := (.ite (.cmp .NotEq (.bin .Mult (.bin .Sub (.v 8) (.bin .Mult (.sub (.sub (.v 1) (.v 6)) (.int 1)) (.v 12))) (.bin .Sub (.sub (.sub (.v 1) (.bin .Add (.v 6) (.int 1))) (.int 0)) (.sub (.sub (.v 1) (.v 6)) (.int 0)))) (.bin .Mult (.bin .Mult (.sub (.v 2) (.v 6)) (.bin .Sub (.v 11) (.sub (.sub (.v 1) (.v 6)) (.int 0)))) (.v 12))) (.cons (.ret (.bl false)) .nil) .nil)
def D6 : St (List Int) := (.for_ [] (.nm 10) (.range1 (.int 6)) (.cons D6_0 (.cons D6_1 (.cons D6_2 (.cons D6_3 .nil)))))
def D7 : St (List Int) := (.ret (.bl true))
theorem Deq : b_law_are_tops_due = (.cons D0 (.cons D1 (.cons D2 (.cons D3 (.cons D4 (.cons D5 (.cons D6 (.cons D7 .nil)))))))) := rfl

section
variable {o4 o5 o6 o7 o8 o9 o10 o11 o12 : Option PyData} {F : Fl → Prop} {R : Sts (List Int)} {g : Nat → PP} {n : Nat}
theorem fm_none {α β : Type} : ∀ l : List α, l.filterMap (fun _ => (none : Option β)) = []
  | [] => rfl
  | a :: l => by rw [List.filterMap_cons_none rfl, fm_none l]
theorem stL_get {k : Nat} (h : k < n) : ((stL g n).map PyData.int)[k]? = some (.int (st g k)) := by
  unfold stL
  rw [List.map_map, List.getElem?_map, List.getElem?_range h]
  rfl
theorem rd_ne_of_lt {a b c d : Int} (hb : 0 < b) (hd : 0 < d) (h : a * d < c * b) : ¬ ((rd a b).1 = (rd c d).1 ∧ (rd a b).2 = (rd c d).2) := by
  rintro ⟨h1, h2⟩
  have := (rd_le_iff (a := c) (b := d) (c := a) (d := b) hd hb).mp (by rw [h1, h2]; exact Int.le_refl _)
  omega
theorem dA (hp : Pf g n) (hh : Hb g n) (hF : ∀ o4 o5 o6 o7, Sat (run D2 (none :: some (.list (lnD g n)) :: some (iD (stL g n)) :: some (.int ((n + 1 : Nat) : Int)) :: o4 :: o5 :: o6 :: o7 :: o8 :: o9 :: o10 :: o11 :: o12 :: none :: none :: none :: [])) (Kx (X := NoE) R F)) : Sat (run D0 (none :: some (.list (lnD g n)) :: some (iD (stL g n)) :: some (.int ((n + 1 : Nat) : Int)) :: o4 :: o5 :: o6 :: o7 :: o8 :: o9 :: o10 :: o11 :: o12 :: none :: none :: none :: [])) (Kx (X := NoE) (.cons D1 (.cons D2 R)) F) := by
  have hl := lnD_len g n
  have hz : sizeLine = 16777216 := sizeLine_eq
  have hn := hp.n2
  obtain ⟨b, hs, he⟩ := steepest_ok hp hh
  have hbn := hs.lt
  have hsb := sl_b hp hh (show b < b + 1 by omega) (show b + 1 ≤ n by omega)
  have hwb : 0 < wd g b := by unfold wd; omega
  have rb := rd_small ⟨hsb.2.2.1, hsb.2.2.2⟩ ⟨hsb.1, hsb.2.1⟩
  unfold D0; clean_wf
  refine sat_call_ok he ?_
  clean_wf; unfold D1; clean_wf
  refine sat_for (fun _ k ρ => ∃ o6 o7 : Option PyData, ρ = (none :: some (.list (lnD g n)) :: some (iD (stL g n)) :: some (.int ((n + 1 : Nat) : Int)) :: some (ptD (rd (st g b) (wd g b))) :: some (.int (b : Nat)) :: o6 :: o7 :: o8 :: o9 :: o10 :: o11 :: o12 :: none :: none :: none :: [])) ?_
  clean_wf
  refine ⟨by omega, by omega, ⟨_, _, rfl⟩, fun k hk ρ => ?_, fun ρ => ?_⟩
  · rintro ⟨o6, o7, rfl⟩
    rw [rangeD_get hk]
    rw [rangeD_len] at hk
    rw [Int.zero_add]
    have hk : k < n := by omega
    have hsk := sl_b hp hh (show k < k + 1 by omega) (show k + 1 ≤ n by omega)
    have hwk : 0 < wd g k := by unfold wd; omega
    have rk := rd_small ⟨hsk.2.2.1, hsk.2.2.2⟩ ⟨hsk.1, hsk.2.1⟩
    clean_wf; unfold D1_0; clean_wf
    refine sat_atL (by omega) (by rw [Int.toNat_natCast]; exact stL_get hk) ?_
    clean_wf
    refine sat_atL (by omega) (by rw [show ((k : Int) + 1).toNat = k + 1 by omega]; exact lnD_get (by omega)) ?_
    clean_wf
    refine sat_atL (by omega) (by rw [Int.toNat_natCast]; exact lnD_get (by omega)) ?_
    clean_wf
    refine sat_call_ok (law_sl_ok hp hh (show k < k + 1 by omega) (show k + 1 ≤ n by omega)) ?_
    clean_wf; unfold D1_1; clean_wf
    refine sat_call_ok (is_at_most_ok (p := sl g k (k + 1)) (q := rd (st g b) (wd g b)) ⟨rk.2.2.1, rk.2.2.2⟩ ⟨rb.2.2.1, rb.2.2.2⟩) ?_
    rw [decide_eq_true (show (sl g k (k + 1)).1 * (rd (st g b) (wd g b)).2 ≤ (rd (st g b) (wd g b)).1 * (sl g k (k + 1)).2 from (rd_le_iff (a := st g k) (b := wd g k) hwk hwb).mpr (hs.top k hk))]
    rcases Nat.lt_trichotomy k b with q | q | q
    · clean_wf
      refine sat_eqT rfl rfl ?_
      rw [eqv_pt, decide_eq_false (show ¬ ((sl g k (k + 1)).1 = (rd (st g b) (wd g b)).1 ∧ (sl g k (k + 1)).2 = (rd (st g b) (wd g b)).2) from rd_ne_of_lt (a := st g k) (b := wd g k) hwk hwb (hs.fst k q))]
      clean_wf
      exact ⟨_, _, rfl⟩
    · subst q
      clean_wf
      refine sat_neR rfl rfl ?_
      clean_wf
      exact ⟨_, _, rfl⟩
    · clean_wf
      exact ⟨_, _, rfl⟩
  · rintro ⟨o6, o7, rfl⟩
    clean_wf
    exact hF _ _ _ _
theorem dB (hp : Pf g n) (hF : ∀ o8, Sat (run D4 (none :: some (.list (lnD g n)) :: some (iD (stL g n)) :: some (.int ((n + 1 : Nat) : Int)) :: o4 :: o5 :: o6 :: o7 :: o8 :: o9 :: o10 :: o11 :: o12 :: none :: none :: none :: [])) (Kx (X := NoE) R F)) : Sat (run D2 (none :: some (.list (lnD g n)) :: some (iD (stL g n)) :: some (.int ((n + 1 : Nat) : Int)) :: o4 :: o5 :: o6 :: o7 :: o8 :: o9 :: o10 :: o11 :: o12 :: none :: none :: none :: [])) (Kx (X := NoE) (.cons D3 (.cons D4 R)) F) := by
  have hl := lnD_len g n
  have hz : sizeLine = 16777216 := sizeLine_eq
  have hn := hp.n2
  obtain ⟨b, ⟨hb, ht, hf⟩, he⟩ := highest_ok hp
  unfold D2; clean_wf
  refine sat_call_ok he ?_
  clean_wf; unfold D3; clean_wf
  refine sat_lcM (List.range (n + 1)) (fun j => .int (j : Nat)) (fun _ => none) ?_
  clean_wf
  refine ⟨by omega, by omega, by rw [Int.toNat_natCast, rangeD_nat], fun j hj => ?_, ?_⟩
  · have hj := List.mem_range.mp hj
    have hj2 := ht j (by omega)
    have hj3 := hf j
    clean_wf
    refine sat_atL (by omega) (by rw [Int.toNat_natCast]; exact lnD_get (by omega)) ?_
    clean_wf
    refine sat_atL (by omega) (by rw [Int.toNat_natCast]; exact lnD_get (by omega)) ?_
    clean_wf
    by_cases q : j < b
    · have hj3 := hj3 q
      clean_wf
      refine sat_atL (by omega) (by rw [Int.toNat_natCast]; exact lnD_get (by omega)) ?_
      clean_wf
      refine sat_atL (by omega) (by rw [Int.toNat_natCast]; exact lnD_get (by omega)) ?_
      clean_wf
      rfl
    · clean_wf
      rfl
  · rw [fm_none]
    clean_wf
    refine sat_neR rfl rfl ?_
    clean_wf
    exact hF _
theorem rangeD_from (s m : Nat) : rangeD (s : Nat) m = (List.range m).map fun d => PyData.int ((s + d : Nat) : Int) := by
  unfold rangeD
  exact List.map_congr_left fun d _ => by rw [Int.natCast_add]
theorem filter_lt (s e : Nat) : ∀ m : Nat, (List.range m).filter (fun d => decide (s + d < e)) = List.range (min m (e - s))
  | 0 => by rw [Nat.zero_min]; rfl
  | m + 1 => by
    rw [List.range_succ, List.filter_append, filter_lt s e m]
    by_cases h : s + m < e
    · rw [List.filter_cons_of_pos (by simpa using h), Nat.min_eq_left (by omega), Nat.min_eq_left (by omega), List.range_succ]
      rfl
    · rw [List.filter_cons_of_neg (by simpa using h), Nat.min_eq_right (by omega), Nat.min_eq_right (by omega)]
      simp
theorem sat_cutEnd {S : Type} {X : Str → Prop} {l : List PyData} {Q : PyData → Prop} (h0 : 0 < l.length) (h : Q (.list (l.drop (l.length - 1)))) : SatE X (lft (S := S) (cutX (.list l) (some (-1)) none)) Q := sat_lft (by
  show R.ok (PyData.list (cutD l (some (-1)) none)) = _
  unfold cutD
  rw [sIx_dn _ _ h0, HT.sIx_none, List.take_of_length_le (by simp)]) h
theorem okD_nD (l : List Nat) : okD (.list (nD l)) = true := (okD_of fun x hx => by
  obtain ⟨i, _, rfl⟩ := List.mem_map.mp hx
  exact ⟨rfl, by show 0 ≤ 3; omega⟩).1
theorem isEmpty_fm {α β : Type} (p : α → Bool) (f : α → β) (l : List α) : ((l.filter p).map f).isEmpty = l.all fun a => !p a := by
  induction l with
  | nil => rfl
  | cons a l ih =>
    rw [List.filter_cons, List.all_cons, ← ih]
    cases p a <;> rfl
theorem dC (hp : Pf g n) (hF : ∀ o6 o9, Sat (run D5 (none :: some (.list (lnD g n)) :: some (iD (stL g n)) :: some (.int ((n + 1 : Nat) : Int)) :: o4 :: o5 :: o6 :: o7 :: o8 :: o9 :: o10 :: o11 :: o12 :: none :: none :: none :: [])) (Kx (X := NoE) R F)) : Sat (run D4 (none :: some (.list (lnD g n)) :: some (iD (stL g n)) :: some (.int ((n + 1 : Nat) : Int)) :: o4 :: o5 :: o6 :: o7 :: o8 :: o9 :: o10 :: o11 :: o12 :: none :: none :: none :: [])) (Kx (X := NoE) (.cons D5 R) F) := by
  have hl := lnD_len g n
  have hz : sizeLine = 16777216 := sizeLine_eq
  have hn := hp.n2
  unfold D4; clean_wf
  refine sat_for (fun _ k ρ => ∃ o6 o9 : Option PyData, ρ = (none :: some (.list (lnD g n)) :: some (iD (stL g n)) :: some (.int ((n + 1 : Nat) : Int)) :: o4 :: o5 :: o6 :: o7 :: o8 :: o9 :: o10 :: o11 :: o12 :: none :: none :: none :: [])) ?_
  clean_wf
  refine sat_call_ok (summits_ok hp) ?_
  clean_wf
  refine ⟨⟨_, _, rfl⟩, fun k hk ρ => ?_, fun ρ => ?_⟩
  · rintro ⟨o6, o9, rfl⟩
    rw [List.length_map] at hk
    rw [List.getElem_map]
    have hm := List.getElem_mem hk
    generalize (smL g n)[k] = s at hm
    obtain ⟨i, hi, rfl, h1, h2⟩ := sm_mem.mp hm
    have m1 := lv_mono (g := g) (n := n) (show i < i + 1 by omega) (by omega)
    have m2 := lv_mono (g := g) (n := n) (show i + 1 < i + 2 by omega) (by omega)
    have m3 := lv_le (g := g) (n := n) (show i + 2 ≤ lk g n by omega)
    have a1 := lv_near (g := g) (n := n) (i := i) (m := lc g n (i + 1) - 1) (by omega) (by omega) (by omega)
    have a2 := fun m (h : lc g n (i + 1) ≤ m) (h' : m < lc g n (i + 2)) => lv_near (g := g) (n := n) (i := i + 1) (m := m) (by omega) h h'
    generalize lc g n (i + 1) = s at *
    generalize lc g n (i + 2) = e at *
    clean_wf; unfold D4_0; clean_wf
    refine sat_lcM (List.range (n + 1 - s)) (fun d => .int ((s + d : Nat) : Int)) (fun d => if decide (s + d < e) = true then some (.int ((s + d : Nat) : Int)) else none) ?_
    clean_wf
    refine ⟨_, _, rfl, rfl, by omega, ?_, fun d hd => ?_, ?_⟩
    · rw [show (((n + 1 : Nat) : Int) - (s : Nat)).toNat = n + 1 - s by omega, rangeD_from]
    · have hd := List.mem_range.mp hd
      clean_wf
      refine sat_lcM (List.range (d + 1)) (fun x => .int ((s + x : Nat) : Int)) (fun x => if decide ((g (s + x)).2 ≠ (g s).2) = true then some (.int ((s + x : Nat) : Int)) else none) ?_
      clean_wf
      refine ⟨_, _, rfl, rfl, by omega, ?_, fun x hx => ?_, ?_⟩
      · rw [show (((s + d : Nat) : Int) + 1 - (s : Nat)).toNat = d + 1 by omega, rangeD_from]
      · have hx := List.mem_range.mp hx
        clean_wf
        refine sat_atL (by omega) (by rw [Int.toNat_natCast]; exact lnD_get (by omega)) ?_
        clean_wf
        refine sat_atL (by omega) (by rw [Int.toNat_natCast]; exact lnD_get (by omega)) ?_
        clean_wf
        refine if_dec (fun q => ?_) (fun q => ?_)
        · clean_wf
          rw [decide_eq_true q]; rfl
        · rw [decide_eq_false q]; rfl
      · rw [fm_filter (fun x => decide ((g (s + x)).2 ≠ (g s).2)) fun x => PyData.int ((s + x : Nat) : Int)]
        have hok : okD (.list (((List.range (d + 1)).filter fun x => decide ((g (s + x)).2 ≠ (g s).2)).map fun x => PyData.int ((s + x : Nat) : Int))) = true := (okD_of fun x hx => by
          obtain ⟨i, _, rfl⟩ := List.mem_map.mp hx
          exact ⟨rfl, by show 0 ≤ 3; omega⟩).1
        clean_wf
        refine sat_eqT hok rfl ?_
        rw [eqv_nil, isEmpty_fm]
        have : ((List.range (d + 1)).all fun x => !decide ((g (s + x)).2 ≠ (g s).2)) = decide (s + d < e) := by
          rw [Bool.eq_iff_iff, List.all_eq_true, decide_eq_true_iff]
          constructor
          · intro h
            rcases Nat.lt_or_ge (s + d) e with q | q
            · exact q
            · have := h (e - s) (List.mem_range.mpr (by omega))
              rw [show s + (e - s) = e by omega, decide_eq_true (by omega)] at this
              cases this
          · intro h x hx
            have := List.mem_range.mp hx
            rw [a2 (s + x) (by omega) (by omega), decide_eq_false (by simp)]
            rfl
        rw [this]
        refine if_dec (fun q => ?_) (fun q => ?_)
        · clean_wf
          rw [decide_eq_true q]; rfl
        · rw [decide_eq_false q]; rfl
    · rw [fm_filter (fun d => decide (s + d < e)) fun d => PyData.int ((s + d : Nat) : Int), filter_lt, Nat.min_eq_right (by omega)]
      clean_wf
      refine sat_cutEnd (by simp; omega) ?_
      clean_wf
      refine sat_atL (d := .int ((e - 1 : Nat) : Int)) (by omega) ?_ ?_
      · rw [List.length_map, List.length_range, List.getElem?_drop, List.getElem?_map, List.getElem?_range (by show e - s - 1 + 0 < e - s; omega)]
        show some (PyData.int ((s + (e - s - 1 + 0) : Nat) : Int)) = _
        rw [show s + (e - s - 1 + 0) = e - 1 by omega]
      clean_wf; unfold D4_1; clean_wf
      refine sat_atL (by omega) (by rw [show ((s : Int) - 1).toNat = s - 1 by omega]; exact lnD_get (by omega)) ?_
      clean_wf
      refine sat_atL (by omega) (by rw [Int.toNat_natCast]; exact lnD_get (by omega)) ?_
      clean_wf
      refine sat_atL (by omega) (by rw [show (((e - 1 : Nat) : Int) + 1).toNat = e by omega]; exact lnD_get (by omega)) ?_
      clean_wf
      refine sat_atL (by omega) (by rw [Int.toNat_natCast]; exact lnD_get (by omega)) ?_
      clean_wf
      exact ⟨_, _, rfl⟩
  · rintro ⟨o6, o9, rfl⟩
    clean_wf
    exact hF _ _
/-- the first step that is none of 0, or 1 -/
def fz (l : List Int) : Int := (l.filter (fun x => decide (x ≠ 0)) ++ [1]).headD 0
theorem fz_iff : ∀ l : List Int, fz l < 0 ↔ ∃ (j : Nat) (x : Int), (∀ i : Nat, i < j → l[i]? = some 0) ∧ l[j]? = some x ∧ x < 0
  | [] => by
    unfold fz
    constructor
    · intro h
      exact absurd h (by decide)
    · rintro ⟨j, x, _, h, _⟩
      simp at h
  | a :: l => by
    have ih := fz_iff l
    by_cases e : a = 0
    · subst e
      have : fz (0 :: l) = fz l := by unfold fz; rw [List.filter_cons_of_neg (by simp)]
      rw [this, ih]
      constructor
      · rintro ⟨j, x, h1, h2, h3⟩
        refine ⟨j + 1, x, fun i hi => ?_, h2, h3⟩
        cases i with
        | zero => rfl
        | succ i => exact h1 i (by omega)
      · rintro ⟨j, x, h1, h2, h3⟩
        cases j with
        | zero =>
          have : (0 : Int) = x := Option.some.inj h2
          omega
        | succ j => exact ⟨j, x, fun i hi => h1 (i + 1) (by omega), h2, h3⟩
    · have : fz (a :: l) = a := by unfold fz; rw [List.filter_cons_of_pos (by simpa using e)]; rfl
      rw [this]
      constructor
      · intro h
        exact ⟨0, a, fun i hi => absurd hi (Nat.not_lt_zero _), rfl, h⟩
      · rintro ⟨j, x, h1, h2, h3⟩
        cases j with
        | zero => rw [Option.some.inj h2]; exact h3
        | succ j => exact absurd (Option.some.inj (h1 0 (Nat.succ_pos _))) e
def tB (g : Nat → PP) (n k : Nat) : Bool := decide (0 < st g (k - 1)) && decide (fz ((stL g n).drop k) < 0)
theorem stL_at (g : Nat → PP) (n k i : Nat) : ((stL g n).drop k)[i]? = if k + i < n then some (st g (k + i)) else none := by
  rw [List.getElem?_drop]
  unfold stL
  rw [List.getElem?_map]
  split
  · rename_i h
    rw [List.getElem?_range h]; rfl
  · rename_i h
    rw [List.getElem?_eq_none (by simp; omega)]; rfl
theorem tB_iff {k : Nat} (h1 : 1 ≤ k) (h2 : k < n) : tB g n k = true ↔ Tp g n k := by
  unfold tB Tp
  rw [Bool.and_eq_true, decide_eq_true_iff, decide_eq_true_iff, fz_iff]
  constructor
  · rintro ⟨a, j, x, b, c, d⟩
    rw [stL_at] at c
    split at c
    · rename_i q
      cases c
      refine ⟨h1, h2, a, k + j, by omega, q, fun i i1 i2 => ?_, d⟩
      have := b (i - k) (by omega)
      rw [stL_at, if_pos (by omega), show k + (i - k) = i by omega] at this
      exact Option.some.inj this
    · cases c
  · rintro ⟨_, _, a, j, b, c, d, e⟩
    refine ⟨a, j - k, st g j, fun i hi => ?_, ?_, e⟩
    · rw [stL_at, if_pos (by omega), d (k + i) (by omega) (by omega)]
    · rw [stL_at, if_pos (by omega), show k + (j - k) = j by omega]
theorem tops_len (hn : 1 ≤ n) : (smL g n).length = (((List.range (n - 1)).filter fun d => tB g n (1 + d)).map fun d => PyData.int ((1 + d : Nat) : Int)).length := by
  rw [List.length_map]
  have e : ((List.range (n - 1)).filter fun d => tB g n (1 + d)).length = (((List.range (n - 1)).filter fun d => tB g n (1 + d)).map fun d => 1 + d).length := by rw [List.length_map]
  rw [e]
  refine List.Perm.length_eq ((List.perm_ext_iff_of_nodup sm_nodup ?_).mpr fun k => ?_)
  · rw [List.Nodup, List.pairwise_map]
    exact ((List.pairwise_lt_range (n := n - 1)).filter _).imp fun {a b} h => by omega
  · rw [sm_tp, List.mem_map]
    constructor
    · intro h
      have h1 := h.1
      have h2 := h.2.1
      exact ⟨k - 1, List.mem_filter.mpr ⟨List.mem_range.mpr (by omega), by rw [show 1 + (k - 1) = k by omega]; exact (tB_iff h1 h2).mpr h⟩, by omega⟩
    · rintro ⟨d, h, rfl⟩
      obtain ⟨h1, h2⟩ := List.mem_filter.mp h
      have := List.mem_range.mp h1
      exact (tB_iff (by omega) (by omega)).mp h2
theorem dD (hp : Pf g n) (hF : Sat (run D6 (none :: some (.list (lnD g n)) :: some (iD (stL g n)) :: some (.int ((n + 1 : Nat) : Int)) :: o4 :: o5 :: o6 :: o7 :: o8 :: o9 :: o10 :: o11 :: o12 :: none :: none :: none :: [])) (Kx (X := NoE) R F)) : Sat (run D5 (none :: some (.list (lnD g n)) :: some (iD (stL g n)) :: some (.int ((n + 1 : Nat) : Int)) :: o4 :: o5 :: o6 :: o7 :: o8 :: o9 :: o10 :: o11 :: o12 :: none :: none :: none :: [])) (Kx (X := NoE) (.cons D6 R) F) := by
  have hl := lnD_len g n
  have hz : sizeLine = 16777216 := sizeLine_eq
  have hn := hp.n2
  have hn1 := hp.n1
  have hsl : (stL g n).length = n := by unfold stL; simp
  unfold D5; clean_wf
  refine sat_call_ok (summits_ok hp) ?_
  clean_wf
  refine sat_lcM (List.range (n - 1)) (fun d => .int ((1 + d : Nat) : Int)) (fun d => if tB g n (1 + d) = true then some (.int ((1 + d : Nat) : Int)) else none) ?_
  clean_wf
  refine ⟨_, _, rfl, rfl, by omega, ?_, fun d hd => ?_, ?_⟩
  · rw [show (((n + 1 : Nat) : Int) - 1 - 1).toNat = n - 1 by omega]
    exact rangeD_from 1 (n - 1)
  · have hd := List.mem_range.mp hd
    clean_wf
    refine sat_atL (by omega) (by rw [show (((1 + d : Nat) : Int) - 1).toNat = d by omega]; exact stL_get (by omega)) ?_
    clean_wf
    unfold tB
    rw [show 1 + d - 1 = d by omega]
    refine if_dec (fun q => ?_) (fun q => ?_)
    · rw [decide_eq_true q]
      clean_wf
      refine sat_lcM ((stL g n).drop (1 + d)) PyData.int (fun x => if decide (x ≠ 0) = true then some (.int x) else none) ?_
      clean_wf
      refine sat_cutL2 (by omega) ?_
      rw [Int.toNat_natCast, ← List.map_drop]
      clean_wf
      refine ⟨fun x hx => ?_, ?_⟩
      · clean_wf
        refine if_dec (fun r => ?_) (fun r => ?_)
        · clean_wf
          rw [decide_eq_true r]; rfl
        · rw [decide_eq_false r]; rfl
      · rw [fm_filter (fun x => decide (x ≠ 0)) PyData.int]
        have hlen : (((stL g n).drop (1 + d)).filter fun x => decide (x ≠ 0)).length ≤ n := by
          have h1 := List.length_filter_le (fun x => decide (x ≠ 0)) ((stL g n).drop (1 + d))
          have h2 : ((stL g n).drop (1 + d)).length ≤ n := by rw [List.length_drop, hsl]; omega
          omega
        have hfz : fz ((stL g n).drop (1 + d)) = ((((stL g n).drop (1 + d)).filter fun x => decide (x ≠ 0)) ++ [1]).headD 0 := rfl
        generalize fz ((stL g n).drop (1 + d)) = z at *
        generalize (((stL g n).drop (1 + d)).filter fun x => decide (x ≠ 0)) = l at *
        clean_wf
        refine sat_addL (by simp; omega) ?_
        clean_wf
        refine sat_atL (d := .int z) (by omega) (by subst hfz; cases l <;> rfl) ?_
        clean_wf
        refine if_dec (fun r => ?_) (fun r => ?_)
        · clean_wf
          rw [decide_eq_true r]; rfl
        · rw [decide_eq_false r]; rfl
    · rw [decide_eq_false q]
      refine if_F ?_
      rfl
  · rw [fm_filter (fun d => tB g n (1 + d)) fun d => PyData.int ((1 + d : Nat) : Int)]
    have e := tops_len (g := g) hn1
    clean_wf
    rw [List.length_map (as := smL g n), e, decide_eq_false (fun q => q rfl)]
    clean_wf
    exact hF
theorem dE (hp : Pf g n) (hh : Hb g n) (hF : F (.ret (.bool true))) : Sat (run D6 (none :: some (.list (lnD g n)) :: some (iD (stL g n)) :: some (.int ((n + 1 : Nat) : Int)) :: o4 :: o5 :: o6 :: o7 :: o8 :: o9 :: o10 :: o11 :: o12 :: none :: none :: none :: [])) (Kx (X := NoE) (.cons D7 .nil) F) := by
  have hl := lnD_len g n
  have hz : sizeLine = 16777216 := sizeLine_eq
  have hn := hp.n2
  have hn1 := hp.n1
  unfold D6; clean_wf
  refine sat_for (fun _ k ρ => ∃ o6 o8 o10 o11 o12 : Option PyData, ρ = (none :: some (.list (lnD g n)) :: some (iD (stL g n)) :: some (.int ((n + 1 : Nat) : Int)) :: o4 :: o5 :: o6 :: o7 :: o8 :: o9 :: o10 :: o11 :: o12 :: none :: none :: none :: [])) ?_
  clean_wf
  refine ⟨⟨_, _, _, _, _, rfl⟩, fun j hj ρ => ?_, fun ρ => ?_⟩
  · rintro ⟨o6, o8, o10, o11, o12, rfl⟩
    rw [rangeD_get hj]
    clean_wf; unfold D6_0; clean_wf
    refine sat_take (by omega) fun v v1 v2 => ?_
    obtain ⟨k, rfl⟩ := Int.eq_ofNat_of_zero_le v1
    have hk : k < n := by omega
    have hsk := sl_b hp hh (show k < k + 1 by omega) (show k + 1 ≤ n by omega)
    have hmk := hp.m_le (show k ≤ n by omega)
    clean_wf; unfold D6_1; clean_wf
    refine sat_atL (by omega) (by rw [Int.toNat_natCast]; exact lnD_get (by omega)) ?_
    clean_wf
    refine sat_atL (by omega) (by rw [show ((k : Int) + 1).toNat = k + 1 by omega]; exact lnD_get (by omega)) ?_
    clean_wf
    refine sat_atL (by omega) (by rw [Int.toNat_natCast]; exact lnD_get (by omega)) ?_
    clean_wf
    refine sat_take (by omega) fun w w1 w2 => ?_
    have hm1 : (g k).1 ≤ (g k).1 + w := by omega
    have hm2 : (g k).1 + w ≤ (g (k + 1)).1 := by omega
    have hm0 : 0 ≤ (g k).1 + w := by omega
    clean_wf
    generalize (g k).1 + w = m at *
    obtain ⟨b, hb, hb1, hb2, hb3⟩ := max_at hp hk hm1 hm2
    have hb4 : m ≤ (g (b + 1)).1 := by
      rcases hb2 with rfl | ⟨rfl, rfl⟩
      · exact hm2
      · have := hp.up (k + 1) hb; omega
    have hd := height_due (m := m) hp hk hb hb2
    have hsb := sl_b hp hh (show b < b + 1 by omega) (show b + 1 ≤ n by omega)
    have hwb : 0 < wd g b ∧ wd g b ≤ 100000 := by unfold wd; omega
    have hrp := rd_pos (a := hN g b m) hwb.1
    have hrl := rd_le (a := hN g b m) hwb.1
    have hhk := hh.h k (by omega)
    unfold D6_2; clean_wf
    refine sat_call_ok (height_at_ok hp hh hm0 hb hb1 hb4 hb3) ?_
    clean_wf; unfold D6_3; clean_wf
    refine sat_atL (by omega) (by rw [Int.toNat_natCast]; exact lnD_get (by omega)) ?_
    clean_wf
    refine sat_atL (by omega) (by rw [show ((k : Int) + 1).toNat = k + 1 by omega]; exact lnD_get (by omega)) ?_
    clean_wf
    refine sat_atL (by omega) (by rw [Int.toNat_natCast]; exact lnD_get (by omega)) ?_
    clean_wf
    refine sat_atL (by omega) (by rw [Int.toNat_natCast]; exact stL_get hk) ?_
    clean_wf
    refine sat_atL (by omega) (by rw [Int.toNat_natCast]; exact lnD_get (by omega)) ?_
    clean_wf
    exact ⟨_, _, _, _, _, rfl⟩
  · rintro ⟨o6, o8, o10, o11, o12, rfl⟩
    clean_wf; unfold D7; clean_wf
    exact hF
theorem tops_due_ok (hp : Pf g n) (hh : Hb g n) : Sat (m_law_are_tops_due [.list (lnD g n), iD (stL g n), .int ((n + 1 : Nat) : Int)]) (· = .bool true) := by
  refine defD_sat ?_
  rw [Deq]
  show Sat (runs _ (none :: some (.list (lnD g n)) :: some (iD (stL g n)) :: some (.int ((n + 1 : Nat) : Int)) :: none :: none :: none :: none :: none :: none :: none :: none :: none :: none :: none :: none :: [])) _
  refine sat_st ?_
  refine dA hp hh fun o4 o5 o6 o7 => ?_
  refine dB hp fun o8 => ?_
  refine dC hp fun o6 o9 => ?_
  refine dD hp ?_
  refine dE hp hh ?_
  rfl
end
end K04

set_option Elab.async false
set_option linter.all false
set_option maxRecDepth 100000
set_option maxHeartbeats 1000000

namespace K04
open PySem Mir
theorem same_int (n : Nat) (i : Int) : m_law_same (n + 1) [.int i, .int i] = .ok (.bool true) := by
  refine defP_ok ?_
  unfold b_law_same
  show Sat (runs _ [some (.int i), some (.int i), none, none]) _
  clean_wf
  rw [decide_eq_true rfl]
theorem same_str (n : Nat) (i : Str) : m_law_same (n + 1) [.str i, .str i] = .ok (.bool true) := by
  refine defP_ok ?_
  unfold b_law_same
  show Sat (runs _ [some (.str i), some (.str i), none, none]) _
  clean_wf
  rw [decide_eq_true rfl]
theorem same_bool (n : Nat) (i : Bool) : m_law_same (n + 1) [.bool i, .bool i] = .ok (.bool true) := by
  refine defP_ok ?_
  unfold b_law_same
  show Sat (runs _ [some (.bool i), some (.bool i), none, none]) _
  clean_wf
  rw [decide_eq_true rfl]
theorem same_list (n : Nat) (xs : List PyData) (hl : xs.length ≤ 2 ^ 24) (h : ∀ x ∈ xs, m_law_same n [x, x] = .ok (.bool true)) : m_law_same (n + 1) [.list xs, .list xs] = .ok (.bool true) := by
  refine defP_ok ?_
  unfold b_law_same
  show Sat (runs _ [some (.list xs), some (.list xs), none, none]) _
  clean_wf
  refine sat_for (fun _ k ρ => ∃ o : Option PyData, ρ = [some (.list xs), some (.list xs), o, none]) ?_
  clean_wf
  refine ⟨by show (xs.length : Int) ≤ 2 ^ 24; omega, by omega, ⟨_, rfl⟩, ?_, ?_⟩
  · intro k hk ρ ⟨o, hr⟩
    rw [rangeD_get hk]
    rw [rangeD_len, Int.toNat_natCast] at hk
    subst hr
    clean_wf
    refine sat_atL (d := xs[k]) (by omega) (by rw [show (0 + (k : Int)).toNat = k by omega]; exact List.getElem?_eq_getElem hk) ?_
    clean_wf
    refine sat_atL (d := xs[k]) (by omega) (by rw [show (0 + (k : Int)).toNat = k by omega]; exact List.getElem?_eq_getElem hk) ?_
    clean_wf
    refine sat_call_ok (h _ (List.getElem_mem hk)) ?_
    clean_wf
    exact ⟨_, rfl⟩
  · intro ρ ⟨o, hr⟩
    subst hr
    clean_wf
    rfl
theorem same_tuple (n : Nat) (xs : List PyData) (hl : xs.length ≤ 2 ^ 24) (h : ∀ x ∈ xs, m_law_same n [x, x] = .ok (.bool true)) : m_law_same (n + 1) [.tuple xs, .tuple xs] = .ok (.bool true) := by
  refine defP_ok ?_
  unfold b_law_same
  show Sat (runs _ [some (.tuple xs), some (.tuple xs), none, none]) _
  clean_wf
  refine sat_for (fun _ k ρ => ∃ o : Option PyData, ρ = [some (.tuple xs), some (.tuple xs), o, none]) ?_
  clean_wf
  refine ⟨by show (xs.length : Int) ≤ 2 ^ 24; omega, by omega, ⟨_, rfl⟩, ?_, ?_⟩
  · intro k hk ρ ⟨o, hr⟩
    rw [rangeD_get hk]
    rw [rangeD_len, Int.toNat_natCast] at hk
    subst hr
    clean_wf
    refine sat_atT (d := xs[k]) (by omega) (by rw [show (0 + (k : Int)).toNat = k by omega]; exact List.getElem?_eq_getElem hk) ?_
    clean_wf
    refine sat_atT (d := xs[k]) (by omega) (by rw [show (0 + (k : Int)).toNat = k by omega]; exact List.getElem?_eq_getElem hk) ?_
    clean_wf
    refine sat_call_ok (h _ (List.getElem_mem hk)) ?_
    clean_wf
    exact ⟨_, rfl⟩
  · intro ρ ⟨o, hr⟩
    subst hr
    clean_wf
    rfl

theorem same_ints (k : Nat) (l : List Int) (h : l.length ≤ 2 ^ 24) : m_law_same (k + 2) [iD l, iD l] = .ok (.bool true) := same_list _ _ (by simpa using h) fun x hx => by
  obtain ⟨i, _, rfl⟩ := List.mem_map.mp hx
  exact same_int _ _
theorem same_pt (k : Nat) (p : PP) : m_law_same (k + 2) [ptD p, ptD p] = .ok (.bool true) := same_tuple _ _ (by simp) fun x hx => by
  simp only [List.mem_cons, List.not_mem_nil, or_false] at hx
  rcases hx with rfl | rfl <;> exact same_int _ _
theorem same_ln (k : Nat) (g : Nat → PP) {n : Nat} (h : n ≤ 99) : m_law_same (k + 3) [.list (lnD g n), .list (lnD g n)] = .ok (.bool true) := same_list _ _ (by rw [lnD_len]; omega) fun x hx => by
  rw [lnD_eq] at hx
  obtain ⟨i, _, rfl⟩ := List.mem_map.mp hx
  exact same_pt _ _
def L0 : St (List Int) := (.set 2 false false (.callS ("_law_profile" : Str) m_law_profile (.cons (.int 99) (.cons (.callS ("_law_pick" : Str) m_law_pick (.cons (.lst (.cons (.int 5) (.cons (.int 900) .nil))) .nil)) (.cons (.callS ("_law_pick" : Str) m_law_pick (.cons (.lst (.cons (.int 5) (.cons (.int 400) (.cons (.int 100000) .nil)))) .nil)) .nil)))))
def L1 : St (List Int) := (.par [3, 4] [false, false] false (.cons (.blt .len (.cons (.v 2) .nil)) (.cons (.call ("_law_steps" : Str) m_law_steps (.cons (.v 2) .nil)) .nil)))
def L2 : St (List Int) := (.asg [5, 6] false (.call ("ups_downs" : Str) m_ups_downs (.cons (.v 2) .nil)))
def L3 : St (List Int) := (.ite (.not_ (.call ("_law_same" : Str) (m_law_same 12) (.cons (.lst (.cons (.call ("is_profile" : Str) m_is_profile (.cons (.v 2) .nil)) (.cons (.bin .Sub (.v 5) (.v 6)) (.cons (.bin .Add (.v 5) (.v 6)) .nil)))) (.cons (.lst (.cons (.bl true) (.cons (.bin .Sub (.sub (.sub (.v 2) (.bin .Sub (.v 3) (.int 1))) (.int 1)) (.sub (.sub (.v 2) (.int 0)) (.int 1))) (.cons (.blt .sum (.cons (.lc (.blt .abs (.cons (.v 25) .nil)) (.nm 25) (.of (.v 4)) (.bl true) [(("step" : Str), 25)]) .nil)) .nil)))) .nil)))) (.cons (.ret (.bl false)) .nil) .nil)
def L4 : St (List Int) := (.set 7 false false (.lc (.tup (.cons (.bin .Sub (.sub (.sub (.v 2) (.bin .Sub (.v 3) (.int 1))) (.int 0)) (.v 26)) (.cons (.v 27) .nil))) (.tup [26, 27]) (.rev (.v 2)) (.bl true) [(("m" : Str), 26), (("height" : Str), 27)]))
def L5 : St (List Int) := (.par [8, 9, 10] [false, false, false] false (.cons (.bin .Add (.int 1) (.callS ("_law_take" : Str) m_law_take (.cons (.int 1000) .nil))) (.cons (.bin .Add (.int 1) (.callS ("_law_take" : Str) m_law_take (.cons (.int 1000) .nil))) (.cons (.bin .Add (.int 1) (.callS ("_law_take" : Str) m_law_take (.cons (.int 1000) .nil))) .nil))))
def L6 : St (List Int) := (.set 11 false false (.call ("time_for" : Str) m_time_for (.cons (.v 2) (.cons (.v 8) (.cons (.v 9) (.cons (.v 10) .nil))))))
def L7 : St (List Int) := (.set 12 false false (.lst (.cons (.call ("ups_downs" : Str) m_ups_downs (.cons (.v 7) .nil)) (.cons (.call ("time_for" : Str) m_time_for (.cons (.v 7) (.cons (.v 8) (.cons (.v 9) (.cons (.v 10) .nil))))) (.cons (.call ("time_back" : Str) m_time_back (.cons (.v 7) (.cons (.v 8) (.cons (.v 9) (.cons (.v 10) .nil))))) (.cons (.call ("time_back" : Str) m_time_back (.cons (.v 2) (.cons (.v 8) (.cons (.v 10) (.cons (.v 9) .nil))))) .nil))))))
def L8 : St (List Int) := (.ite (.not_ (.call ("_law_same" : Str) (m_law_same 12) (.cons (.v 12) (.cons (.lst (.cons (.tup (.cons (.v 6) (.cons (.v 5) .nil))) (.cons (.call ("time_back" : Str) m_time_back (.cons (.v 2) (.cons (.v 8) (.cons (.v 9) (.cons (.v 10) .nil))))) (.cons (.v 11) (.cons (.v 11) .nil))))) .nil)))) (.cons (.ret (.bl false)) .nil) .nil)
def L9 : St (List Int) := (.ite (.not_ (.call ("_law_same" : Str) (m_law_same 12) (.cons (.lst (.cons (.call ("takes_time" : Str) m_takes_time (.cons (.v 2) (.cons (.v 8) (.cons (.v 9) (.cons (.v 10) (.cons (.sub (.v 11) (.int 0)) (.cons (.sub (.v 11) (.int 1)) .nil))))))) (.cons (.call ("takes_time" : Str) m_takes_time (.cons (.v 2) (.cons (.v 8) (.cons (.v 9) (.cons (.v 10) (.cons (.bin .Add (.sub (.v 11) (.int 0)) (.int 1)) (.cons (.sub (.v 11) (.int 1)) .nil))))))) .nil))) (.cons (.lst (.cons (.bl true) (.cons (.bl false) .nil))) .nil)))) (.cons (.ret (.bl false)) .nil) .nil)
def L10 : St (List Int) := (.ite (.cmp .Gt (.v 3) (.int 2)) (.cons (.set 13 false false (.bin .Add (.int 1) (.callS ("_law_take" : Str) m_law_take (.cons (.bin .Sub (.v 3) (.int 2)) .nil)))) (.cons (.par [14, 15] [false, false] false (.cons (.call ("cut_profile" : Str) m_cut_profile (.cons (.v 2) (.cons (.int 0) (.cons (.v 13) .nil)))) (.cons (.call ("cut_profile" : Str) m_cut_profile (.cons (.v 2) (.cons (.v 13) (.cons (.bin .Sub (.v 3) (.int 1)) .nil)))) .nil))) (.cons (.ite (.not_ (.call ("_law_same" : Str) (m_law_same 12) (.cons (.lst (.cons (.call ("joined_profiles" : Str) m_joined_profiles (.cons (.v 14) (.cons (.v 15) .nil))) (.cons (.v 14) (.cons (.sub (.v 15) (.int 0)) .nil)))) (.cons (.lst (.cons (.v 2) (.cons (.slH (.v 2) (.bin .Add (.v 13) (.int 1))) (.cons (.tup (.cons (.int 0) (.cons (.sub (.sub (.v 2) (.v 13)) (.int 1)) .nil))) .nil)))) .nil)))) (.cons (.ret (.bl false)) .nil) .nil) (.cons (.ite (.not_ (.call ("_law_same" : Str) (m_law_same 12) (.cons (.call ("_law_plus" : Str) m_law_plus (.cons (.call ("time_for" : Str) m_time_for (.cons (.v 14) (.cons (.v 8) (.cons (.v 9) (.cons (.v 10) .nil))))) (.cons (.call ("time_for" : Str) m_time_for (.cons (.v 15) (.cons (.v 8) (.cons (.v 9) (.cons (.v 10) .nil))))) .nil))) (.cons (.v 11) .nil)))) (.cons (.ret (.bl false)) .nil) .nil) .nil)))) .nil)
def L11_0 : St (List Int) := (.set 17 false false (.call ("thinned_profile" : Str) m_thinned_profile (.cons (.v 2) (.cons (.v 16) .nil))))
def L11_1 : St (List Int) := (.ite (.or_ (.cmp .NotEq (.sub (.v 17) (.int 0)) (.sub (.v 2) (.int 0))) (.or_ (.cmp .NotEq (.sub (.v 17) (.bin .Sub (.blt .len (.cons (.v 17) .nil)) (.int 1))) (.sub (.v 2) (.bin .Sub (.v 3) (.int 1)))) (.one (.cmp .NotEq (.lc (.v 14) (.nm 14) (.of (.v 17)) (.cmp .NotIn (.v 14) (.v 2)) [(("one" : Str), 14)]) (.lst .nil))))) (.cons (.ret (.bl false)) .nil) .nil)
def L11_2 : St (List Int) := (.ite (.or_ (.cmp .Gt (.sub (.call ("ups_downs" : Str) m_ups_downs (.cons (.v 17) .nil)) (.int 0)) (.v 5)) (.one (.cmp .IsNot (.call ("takes_thinned" : Str) m_takes_thinned (.cons (.v 2) (.cons (.v 16) (.cons (.blt .list_ (.cons (.v 17) .nil)) .nil)))) (.bl true)))) (.cons (.ret (.bl false)) .nil) .nil)
def L11_3 : St (List Int) := (.ite (.or_ (.cmp .NotEq (.lc (.v 18) (.nm 18) (.range2 (.int 1) (.bin .Sub (.blt .len (.cons (.v 17) .nil)) (.int 1))) (.cmp .Lt (.blt .abs (.cons (.bin .Sub (.sub (.sub (.v 17) (.v 18)) (.int 1)) (.sub (.sub (.v 17) (.bin .Sub (.v 18) (.int 1))) (.int 1))) .nil)) (.v 16)) [(("k" : Str), 18)]) (.lst .nil)) (.one (.and_ (.cmp .Gt (.blt .len (.cons (.v 17) .nil)) (.int 2)) (.one (.cmp .IsNot (.call ("takes_thinned" : Str) m_takes_thinned (.cons (.v 2) (.cons (.v 16) (.cons (.bin .Add (.slH (.v 17) (.int 1)) (.slL (.v 17) (.int 2))) .nil)))) (.bl false)))))) (.cons (.ret (.bl false)) .nil) .nil)
def L11_4_0 : St (List Int) := (.ite (.cmp .NotEq (.lc (.v 26) (.tup [26, 27]) (.of (.v 2)) (.and_ (.chain .Lt .Lt (.sub (.sub (.v 17) (.bin .Sub (.v 18) (.int 1))) (.int 0)) (.v 26) (.sub (.sub (.v 17) (.v 18)) (.int 0))) (.one (.cmp .GtE (.blt .abs (.cons (.bin .Sub (.v 27) (.sub (.sub (.v 17) (.bin .Sub (.v 18) (.int 1))) (.int 1))) .nil)) (.v 16)))) [(("m" : Str), 26), (("height" : Str), 27)]) (.lst .nil)) (.cons (.ret (.bl false)) .nil) .nil)
def L11_4 : St (List Int) := (.for_ [] (.nm 18) (.range2 (.int 1) (.blt .len (.cons (.v 17) .nil))) (.cons L11_4_0 .nil))
def L11 : St (List Int) := (.for_ [] (.nm 16) (.of (.lst (.cons (.callS ("_law_take" : Str) m_law_take (.cons (.int 9) .nil)) (.cons (.callS ("_law_take" : Str) m_law_take (.cons (.int 400) .nil)) (.cons (.callS ("_law_take" : Str) m_law_take (.cons (.int 100001) .nil)) .nil))))) (.cons L11_0 (.cons L11_1 (.cons L11_2 (.cons L11_3 (.cons L11_4 .nil))))))
def L12_0 : St (List Int) := (.par [20, 21] [true, false] false (.cons (.lst .nil) (.cons .non .nil)))
def L12_1_0 : St (List Int) := (.set 23 false false (.call ("_law_ratio" : Str) m_law_ratio (.cons (.bin .Sub (.sub (.sub (.v 2) (.v 22)) (.int 1)) (.sub (.sub (.v 2) (.v 19)) (.int 1))) (.cons (.bin .Sub (.sub (.sub (.v 2) (.v 22)) (.int 0)) (.sub (.sub (.v 2) (.v 19)) (.int 0))) .nil))))
def L12_1_1 : St (List Int) := (.ite (.or_ (.cmp .Is (.v 21) .non) (.one (.call ("_law_is_at_most" : Str) m_law_is_at_most (.cons (.v 21) (.cons (.v 23) .nil))))) (.cons (.app 20 false (.v 22)) (.cons (.set 21 false false (.v 23)) .nil)) .nil)
def L12_1 : St (List Int) := (.for_ [20] (.nm 22) (.range2 (.bin .Add (.v 19) (.int 1)) (.v 3)) (.cons L12_1_0 (.cons L12_1_1 .nil)))
def L12_2 : St (List Int) := (.set 24 false false (.call ("seen_points" : Str) m_seen_points (.cons (.v 2) (.cons (.v 19) .nil))))
def L12_3 : St (List Int) := (.ite (.or_ (.cmp .NotEq (.lc (.v 22) (.nm 22) (.of (.v 24)) (.cmp .Gt (.v 22) (.v 19)) [(("j" : Str), 22)]) (.v 20)) (.or_ (.cmp .NotEq (.lc (.v 22) (.nm 22) (.of (.v 24)) (.cmp .NotIn (.v 19) (.call ("seen_points" : Str) m_seen_points (.cons (.v 2) (.cons (.v 22) .nil)))) [(("j" : Str), 22)]) (.lst .nil)) (.one (.cmp .IsNot (.call ("sees" : Str) m_sees (.cons (.v 2) (.cons (.v 19) (.cons (.v 19) .nil)))) (.bl true))))) (.cons (.ret (.bl false)) .nil) .nil)
def L12 : St (List Int) := (.for_ [] (.nm 19) (.of (.lst (.cons (.int 0) (.cons (.bin .Sub (.v 3) (.int 1)) (.cons (.callS ("_law_take" : Str) m_law_take (.cons (.v 3) .nil)) .nil))))) (.cons L12_0 (.cons L12_1 (.cons L12_2 (.cons L12_3 .nil)))))
def L13 : St (List Int) := (.ret (.callS ("_law_are_tops_due" : Str) m_law_are_tops_due (.cons (.v 2) (.cons (.v 4) (.cons (.v 3) .nil)))))
theorem Leq : b_law = (.cons L0 (.cons L1 (.cons L2 (.cons L3 (.cons L4 (.cons L5 (.cons L6 (.cons L7 (.cons L8 (.cons L9 (.cons L10 (.cons L11 (.cons L12 (.cons L13 .nil)))))))))))))) := rfl

section
variable {o7 o8 o9 o10 o11 o12 o13 o14 o15 o16 o17 o18 o19 o20 o21 o22 o23 o24 : Option PyData} {F : Fl → Prop} {R : Sts (List Int)} {g : Nat → PP} {n : Nat} {f u d : Int}
theorem eqv_self {d : PyData} (g : okD d = true) : PyData.eqv d d = true := PySem.SeqAt.eqv_refl_plain d (by unfold okD at g; simp only [Bool.and_eq_true] at g; exact g.1)
theorem okD_ln (g : Nat → PP) (n : Nat) : okD (.list (lnD g n)) = true := by rw [lnD_eq]; exact okD_fd _ _
theorem ln_mem {i : Nat} (h : i ≤ n) : ptD (g i) ∈ lnD g n := by
  rw [lnD_eq]
  exact List.mem_map.mpr ⟨i, List.mem_range.mpr (by omega), rfl⟩
theorem rev_ln (g : Nat → PP) (n : Nat) : (lnD g n).reverse = (List.range (n + 1)).map fun i => ptD (g (n - i)) := by
  rw [lnD_eq, ← List.map_reverse, range_rev, List.map_map]
  exact List.map_congr_left fun i _ => by
    show ptD (g (n + 1 - 1 - i)) = _
    rw [Nat.add_sub_cancel]
theorem tr_time_for (hp : Pf g n) (hh : Hb g n) (s : Sp f u d) : m_time_for [.list (lnD (tr g n) n), .int f, .int u, .int d] = .ok (ptD (tm (g n).1 (dns g n) (ups g n) f u d)) := by
  obtain ⟨b1, b2, b3⟩ := (tr_hb hp hh).bd (tr_pf hp)
  have := time_for_ok (tr_pf hp) s b1 b2 b3
  rw [tr_m hp, tr_ups, tr_dns] at this
  exact this
theorem tr_time_back (hp : Pf g n) (hh : Hb g n) (s : Sp f u d) : m_time_back [.list (lnD (tr g n) n), .int f, .int u, .int d] = .ok (ptD (tm (g n).1 (ups g n) (dns g n) f u d)) := by
  obtain ⟨b1, b2, b3⟩ := (tr_hb hp hh).bd (tr_pf hp)
  have := time_back_ok (tr_pf hp) s b1 b2 b3
  rw [tr_m hp, tr_ups, tr_dns] at this
  exact this
theorem tr_ups_downs (hp : Pf g n) : m_ups_downs [.list (lnD (tr g n) n)] = .ok (.tuple [.int (dns g n), .int (ups g n)]) := by
  have := ups_downs_ok (tr_pf hp)
  rw [tr_ups, tr_dns] at this
  exact this
theorem Sp.flip (s : Sp f u d) : Sp f d u := ⟨s.f1, s.f2, s.d1, s.d2, s.u1, s.u2⟩
theorem back_flip (hp : Pf g n) (hh : Hb g n) (s : Sp f u d) : m_time_back [.list (lnD g n), .int f, .int d, .int u] = .ok (ptD (tm (g n).1 (ups g n) (dns g n) f u d)) := by
  obtain ⟨b1, b2, b3⟩ := hh.bd hp
  have := time_back_ok hp s.flip b1 b2 b3
  rw [tm_comm] at this
  exact this
/-- ups and downs -/
theorem lA (hp : Pf g n) (hh : Hb g n) (hF : Sat (run L4 (none :: none :: some (.list (lnD g n)) :: some (.int ((n + 1 : Nat) : Int)) :: some (iD (stL g n)) :: some (.int (ups g n)) :: some (.int (dns g n)) :: o7 :: o8 :: o9 :: o10 :: o11 :: o12 :: o13 :: o14 :: o15 :: o16 :: o17 :: o18 :: o19 :: o20 :: o21 :: o22 :: o23 :: o24 :: none :: none :: none :: [])) (Kx (X := NoE) R F)) : Sat (run L1 (none :: none :: some (.list (lnD g n)) :: none :: none :: none :: none :: o7 :: o8 :: o9 :: o10 :: o11 :: o12 :: o13 :: o14 :: o15 :: o16 :: o17 :: o18 :: o19 :: o20 :: o21 :: o22 :: o23 :: o24 :: none :: none :: none :: [])) (Kx (X := NoE) (.cons L2 (.cons L3 (.cons L4 R))) F) := by
  have hl := lnD_len g n
  have hz : sizeLine = 16777216 := sizeLine_eq
  have hn := hp.n2
  unfold L1; clean_wf
  refine sat_call_ok (law_steps_ok hp) ?_
  clean_wf
  rw [hl]
  unfold L2; clean_wf
  refine sat_call_ok (ups_downs_ok hp) ?_
  clean_wf; unfold L3; clean_wf
  refine sat_call_ok (is_profile_ok hp) ?_
  clean_wf
  refine sat_atL (by omega) (by rw [show (((n + 1 : Nat) : Int) - 1).toNat = n by omega]; exact lnD_get (Nat.le_refl n)) ?_
  clean_wf
  refine sat_atL (by omega) (lnD_get (i := 0) (by omega)) ?_
  clean_wf
  refine sat_lcM (stL g n) PyData.int (fun x => some (.int (aB x))) ?_
  clean_wf
  refine ⟨fun x hx => ?_, ?_⟩
  · clean_wf
    rfl
  refine sat_nil (sat_sumM ?_)
  rw [← ups_add, ← ups_sub g n]
  clean_wf
  refine sat_call_ok (same_list 11 _ (by simp) fun x hx => ?_) ?_
  · simp only [List.mem_cons, List.not_mem_nil, or_false] at hx
    rcases hx with rfl | rfl | rfl
    · exact same_bool 10 _
    · exact same_int 10 _
    · exact same_int 10 _
  clean_wf
  exact hF
/-- there and back -/
theorem lB (hp : Pf g n) (hh : Hb g n) (hF : ∀ f u d o7 o12, Sp f u d → Sat (run L10 (none :: none :: some (.list (lnD g n)) :: some (.int ((n + 1 : Nat) : Int)) :: some (iD (stL g n)) :: some (.int (ups g n)) :: some (.int (dns g n)) :: o7 :: some (.int f) :: some (.int u) :: some (.int d) :: some (ptD (tm (g n).1 (ups g n) (dns g n) f u d)) :: o12 :: o13 :: o14 :: o15 :: o16 :: o17 :: o18 :: o19 :: o20 :: o21 :: o22 :: o23 :: o24 :: none :: none :: none :: [])) (Kx (X := NoE) R F)) : Sat (run L4 (none :: none :: some (.list (lnD g n)) :: some (.int ((n + 1 : Nat) : Int)) :: some (iD (stL g n)) :: some (.int (ups g n)) :: some (.int (dns g n)) :: o7 :: o8 :: o9 :: o10 :: o11 :: o12 :: o13 :: o14 :: o15 :: o16 :: o17 :: o18 :: o19 :: o20 :: o21 :: o22 :: o23 :: o24 :: none :: none :: none :: [])) (Kx (X := NoE) (.cons L5 (.cons L6 (.cons L7 (.cons L8 (.cons L9 (.cons L10 R)))))) F) := by
  have hl := lnD_len g n
  have hz : sizeLine = 16777216 := sizeLine_eq
  have hn := hp.n2
  obtain ⟨b1, b2, b3⟩ := hh.bd hp
  unfold L4; clean_wf
  refine sat_lcM (List.range (n + 1)) (fun i => ptD (g (n - i))) (fun i => some (ptD (tr g n i))) ?_
  clean_wf
  refine ⟨rev_ln g n, fun i hi => ?_, ?_⟩
  · clean_wf
    refine sat_atL (by omega) (by rw [show (((n + 1 : Nat) : Int) - 1).toNat = n by omega]; exact lnD_get (Nat.le_refl n)) ?_
    clean_wf
    rfl
  rw [fm_some, ← lnD_eq]
  clean_wf; unfold L5; clean_wf
  refine sat_take (by omega) fun v1 v11 v12 => ?_
  clean_wf
  refine sat_take (by omega) fun v2 v21 v22 => ?_
  clean_wf
  refine sat_take (by omega) fun v3 v31 v32 => ?_
  have s : Sp (1 + v1) (1 + v2) (1 + v3) := ⟨by omega, by omega, by omega, by omega, by omega, by omega⟩
  clean_wf
  generalize 1 + v1 = f at *
  generalize 1 + v2 = u at *
  generalize 1 + v3 = d at *
  unfold L6; clean_wf
  refine sat_call_ok (time_for_ok hp s b1 b2 b3) ?_
  clean_wf; unfold L7; clean_wf
  refine sat_call_ok (tr_ups_downs hp) ?_
  clean_wf
  refine sat_call_ok (tr_time_for hp hh s) ?_
  clean_wf
  refine sat_call_ok (tr_time_back hp hh s) ?_
  clean_wf
  refine sat_call_ok (back_flip hp hh s) ?_
  clean_wf; unfold L8; clean_wf
  refine sat_call_ok (time_back_ok hp s b1 b2 b3) ?_
  clean_wf
  refine sat_call_ok (same_list 11 _ (by simp) fun x hx => ?_) ?_
  · simp only [List.mem_cons, List.not_mem_nil, or_false] at hx
    rcases hx with rfl | rfl | rfl | rfl
    · exact same_pt 9 (dns g n, ups g n)
    · exact same_pt 9 _
    · exact same_pt 9 _
    · exact same_pt 9 _
  clean_wf; unfold L9; clean_wf
  refine sat_call_ok (takes_time_ok hp s b1 b2 b3 _ _) ?_
  rw [decide_eq_true ⟨rfl, rfl⟩]
  clean_wf
  refine sat_call_ok (takes_time_ok hp s b1 b2 b3 _ _) ?_
  rw [decide_eq_false (fun q => by have := q.1; omega)]
  clean_wf
  refine sat_call_ok (same_list 11 _ (by simp) fun x hx => ?_) ?_
  · simp only [List.mem_cons, List.not_mem_nil, or_false] at hx
    rcases hx with rfl | rfl
    · exact same_bool 10 _
    · exact same_bool 10 _
  clean_wf
  exact hF f u d _ _ s
/-! cut and joined -/
theorem sg_zero (hp : Pf g n) {c : Nat} (hc : c ≤ n) : lnD (sg g 0) (c - 0) = lnD g c := lnD_congr fun i _ => by
  show ((g (0 + i)).1 - (g 0).1, (g (0 + i)).2) = g i
  rw [Nat.zero_add, hp.z, Int.sub_zero]
theorem cut_zero (hp : Pf g n) {c : Nat} (h0 : 0 < c) (hc : c ≤ n) : m_cut_profile [.list (lnD g n), .int 0, .int (c : Nat)] = .ok (.list (lnD g c)) := by
  have := cut_ok hp h0 hc
  rw [sg_zero hp hc] at this
  exact this
theorem join_zero (hp : Pf g n) {c : Nat} (h0 : 0 < c) (hc : c < n) : m_joined_profiles [.list (lnD g c), .list (lnD (sg g c) (n - c))] = .ok (.list (lnD g n)) := by
  have := cut_joined hp h0 hc
  rw [sg_zero hp (by omega)] at this
  exact this
theorem ln_take {c : Nat} (hc : c ≤ n) : (lnD g n).take (c + 1) = lnD g c := by
  have := lnD_part (g := g) (n := n) (a := 0) (k := c + 1) (by omega)
  rw [List.drop_zero] at this
  rw [this, lnD_eq]
  exact List.map_congr_left fun i _ => by rw [Nat.zero_add]
theorem pf_cut (hp : Pf g n) {c : Nat} (h0 : 0 < c) (hc : c ≤ n) : Pf g c := ⟨h0, by have := hp.n2; omega, hp.z, fun i hi => hp.up i (by omega)⟩
theorem hb_cut (hp : Pf g n) (hh : Hb g n) {c : Nat} (hc : c ≤ n) : Hb g c := ⟨fun i hi => hh.h i (by omega), by have := hp.m_le hc; have := hh.m; omega⟩
theorem tm_b (s : Sp f u d) {M U D : Int} (hM : Bd M) (hU : Bd U) (hD : Bd D) : (0 < (tm M U D f u d).2 ∧ (tm M U D f u d).2 ≤ 1000000000) ∧ 0 ≤ (tm M U D f u d).1 ∧ (tm M U D f u d).1 ≤ 10000000000000000000 := by
  have hb := s.b
  have hb0 : 0 < f * u * d := by omega
  have ha := tn_b s hM hU hD
  have h1 := rd_pos (a := tn M U D f u d) hb0
  have h2 := rd_le (a := tn M U D f u d) hb0
  have h3 := (rd_mul (tn M U D f u d) (f * u * d)).1
  have h4 := gcd_pos (tn M U D f u d) hb0
  unfold tm
  generalize rd (tn M U D f u d) (f * u * d) = r at *
  refine ⟨⟨h1, by omega⟩, ?_⟩
  rcases Int.lt_or_le r.1 0 with q | q
  · have := Int.mul_neg_of_neg_of_pos q h4
    omega
  · have : r.1 * 1 ≤ r.1 * (Int.gcd (tn M U D f u d) (f * u * d) : Int) := Int.mul_le_mul_of_nonneg_left (by omega) q
    omega
theorem parts_time (hp : Pf g n) {c : Nat} (hc : c ≤ n) : (g c).1 + (sg g c (n - c)).1 = (g n).1 ∧ ups g c + ups (sg g c) (n - c) = ups g n ∧ dns g c + dns (sg g c) (n - c) = dns g n := by
  obtain ⟨h1, h2⟩ := sg_ups (g := g) (a := c) (k := n - c)
  rw [show c + (n - c) = n by omega] at h1 h2
  refine ⟨?_, h1.symm, h2.symm⟩
  show (g c).1 + ((g (c + (n - c))).1 - (g c).1) = _
  rw [show c + (n - c) = n by omega]
  omega
theorem lC (hp : Pf g n) (hh : Hb g n) (s : Sp f u d) (hF : ∀ o13 o14 o15, Sat (run L11 (none :: none :: some (.list (lnD g n)) :: some (.int ((n + 1 : Nat) : Int)) :: some (iD (stL g n)) :: some (.int (ups g n)) :: some (.int (dns g n)) :: o7 :: some (.int f) :: some (.int u) :: some (.int d) :: some (ptD (tm (g n).1 (ups g n) (dns g n) f u d)) :: o12 :: o13 :: o14 :: o15 :: o16 :: o17 :: o18 :: o19 :: o20 :: o21 :: o22 :: o23 :: o24 :: none :: none :: none :: [])) (Kx (X := NoE) R F)) : Sat (run L10 (none :: none :: some (.list (lnD g n)) :: some (.int ((n + 1 : Nat) : Int)) :: some (iD (stL g n)) :: some (.int (ups g n)) :: some (.int (dns g n)) :: o7 :: some (.int f) :: some (.int u) :: some (.int d) :: some (ptD (tm (g n).1 (ups g n) (dns g n) f u d)) :: o12 :: o13 :: o14 :: o15 :: o16 :: o17 :: o18 :: o19 :: o20 :: o21 :: o22 :: o23 :: o24 :: none :: none :: none :: [])) (Kx (X := NoE) (.cons L11 R) F) := by
  have hl := lnD_len g n
  have hz : sizeLine = 16777216 := sizeLine_eq
  have hn := hp.n2
  unfold L10; clean_wf
  refine if_dec (fun q => ?_) (fun q => ?_)
  · clean_wf
    refine sat_take (by omega) fun v v1 v2 => ?_
    obtain ⟨k, rfl⟩ := Int.eq_ofNat_of_zero_le v1
    have hc0 : 0 < 1 + k := by omega
    have hcn : 1 + k < n := by omega
    clean_wf
    rw [show (1 : Int) + ((k : Nat) : Int) = ((1 + k : Nat) : Int) by omega]
    generalize 1 + k = c at *
    refine sat_call_ok (cut_zero hp hc0 (by omega)) ?_
    clean_wf
    rw [show ((n + 1 : Nat) : Int) - 1 = ((n : Nat) : Int) by omega]
    refine sat_call_ok (cut_ok hp hcn (Nat.le_refl n)) ?_
    clean_wf
    refine sat_call_ok (join_zero hp hc0 hcn) ?_
    clean_wf
    refine sat_atL (by omega) (lnD_get (i := 0) (by omega)) ?_
    clean_wf
    refine sat_cutLh (by omega) (by rw [hl]; omega) ?_
    rw [show (((c : Nat) : Int) + 1).toNat = c + 1 by omega, ln_take (by omega)]
    clean_wf
    refine sat_atL (by omega) (by rw [Int.toNat_natCast]; exact lnD_get (by omega)) ?_
    clean_wf
    have e0 : sg g c 0 = (0, (g c).2) := by
      show ((g (c + 0)).1 - (g c).1, (g (c + 0)).2) = _
      rw [Nat.add_zero, Int.sub_self]
    rw [e0]
    refine sat_call_ok (same_list 11 _ (by simp) fun x hx => ?_) ?_
    · simp only [List.mem_cons, List.not_mem_nil, or_false] at hx
      rcases hx with rfl | rfl | rfl
      · exact same_ln 8 g hn
      · exact same_ln 8 g (by omega)
      · exact same_pt 9 (0, (g c).2)
    clean_wf
    obtain ⟨p1, p2, p3⟩ := (hb_cut hp hh (show c ≤ n by omega)).bd (pf_cut hp hc0 (by omega))
    obtain ⟨q1, q2, q3⟩ := (sg_hb hp hh hcn (Nat.le_refl n)).bd (sg_pf hp hcn (Nat.le_refl n))
    refine sat_call_ok (time_for_ok (pf_cut hp hc0 (by omega)) s p1 p2 p3) ?_
    clean_wf
    refine sat_call_ok (time_for_ok (sg_pf hp hcn (Nat.le_refl n)) s q1 q2 q3) ?_
    clean_wf
    have t1 := tm_b s p1 p2 p3
    have t2 := tm_b s q1 q2 q3
    refine sat_call_ok (law_plus_ok _ _ t1.1 t2.1 t1.2 t2.2) ?_
    obtain ⟨e1, e2, e3⟩ := parts_time hp (show c ≤ n by omega)
    rw [tm_add s, e1, e2, e3]
    clean_wf
    refine sat_call_ok (same_pt 10 _) ?_
    clean_wf
    exact hF _ _ _
  · clean_wf
    exact hF _ _ _
end
end K04

set_option Elab.async false
set_option linter.all false
set_option maxRecDepth 100000
set_option maxHeartbeats 1000000

namespace K04
open PySem Mir
section
variable {o7 o8 o9 o10 o11 o12 o13 o14 o15 o16 o17 o18 o19 o20 o21 o22 o23 o24 : Option PyData} {F : Fl → Prop} {R : Sts (List Int)} {g q : Nat → PP} {n K : Nat} {t : Int}
/-- thinned -/
structure Tn (g : Nat → PP) (n : Nat) (t : Int) (q : Nat → PP) (K : Nat) : Prop where
  pf : Pf q K
  z : q 0 = g 0
  e : q K = g n
  mem : ∀ i, i ≤ K → ∃ j, j ≤ n ∧ q i = g j
  ups : ups q K ≤ ups g n
  far : ∀ i, i + 1 < K → t ≤ aB ((q (i + 1)).2 - (q i).2)
  near : ∀ i m, i < K → m ≤ n → (q i).1 < (g m).1 → (g m).1 < (q (i + 1)).1 → aB ((g m).2 - (q i).2) < t
  own : m_thinned_profile [.list (lnD g n), .int t] = .ok (.list (lnD q K))
  due : ∀ l, okD (.list l) = true → m_takes_thinned [.list (lnD g n), .int t, .list l] = .ok (.bool (PyData.eqv (.list l) (.list (lnD q K))))
theorem pf_inj (hp : Pf g n) {i j : Nat} (hi : i ≤ n) (h : (g i).1 < (g j).1) : i < j := by
  rcases Nat.lt_or_ge i j with r | r
  · exact r
  · by_cases e : i = j
    · subst e; omega
    · have := hp.lt (show j < i by omega) hi
      omega
theorem tn_ok (hp : Pf g n) (ht : 0 ≤ t ∧ t ≤ 100000) : Tn g n t (thP g n t) (thK g n t) := by
  have h := th_ok (g := g) (t := t) hp.n1
  refine ⟨h.pf hp, by show g (thC g n t 0) = g 0; rw [h.z], by show g (thC g n t (thK g n t)) = g n; rw [h.e], fun i hi => ⟨thC g n t i, h.le hi, rfl⟩, h.ups, h.far, fun i m hi hm h1 h2 => ?_, thinned_ok hp ht, fun l hl => takes_thinned_ok hp ht hl⟩
  exact h.near i m hi (pf_inj hp (h.le (by omega)) h1) (pf_inj hp hm h2)
theorem eqv_len : ∀ a b : List PyData, a.length ≠ b.length → PyData.eqvAll a b = false
  | [], [], h => absurd rfl h
  | [], _ :: _, _ => rfl
  | _ :: _, [], _ => rfl
  | x :: a, y :: b, h => by
    show (PyData.eqv x y && PyData.eqvAll a b) = false
    rw [eqv_len a b (fun e => h (by simp [e]))]
    simp
theorem eqv_lenL {a b : List PyData} (h : a.length ≠ b.length) : PyData.eqv (.list a) (.list b) = false := eqv_len a b h
theorem ln_all {x : PyData} (h : x ∈ lnD g n) : x.plain = true ∧ x.depth ≤ 3 := by
  rw [lnD_eq] at h
  obtain ⟨i, _, rfl⟩ := List.mem_map.mp h
  exact ⟨rfl, by show 1 ≤ 3; omega⟩
theorem lT (T : Tn g n t q K) (hp : Pf g n) (hF : ∀ o17 o18, F (.nx (none :: none :: some (.list (lnD g n)) :: some (.int ((n + 1 : Nat) : Int)) :: some (iD (stL g n)) :: some (.int (ups g n)) :: some (.int (dns g n)) :: o7 :: o8 :: o9 :: o10 :: o11 :: o12 :: o13 :: o14 :: o15 :: some (.int t) :: o17 :: o18 :: o19 :: o20 :: o21 :: o22 :: o23 :: o24 :: none :: none :: none :: []))) : Sat (run L11_0 (none :: none :: some (.list (lnD g n)) :: some (.int ((n + 1 : Nat) : Int)) :: some (iD (stL g n)) :: some (.int (ups g n)) :: some (.int (dns g n)) :: o7 :: o8 :: o9 :: o10 :: o11 :: o12 :: o13 :: o14 :: o15 :: some (.int t) :: o17 :: o18 :: o19 :: o20 :: o21 :: o22 :: o23 :: o24 :: none :: none :: none :: [])) (Kx (X := NoE) (.cons L11_1 (.cons L11_2 (.cons L11_3 (.cons L11_4 .nil)))) F) := by
  have hl := lnD_len g n
  have hq := lnD_len q K
  have hz : sizeLine = 16777216 := sizeLine_eq
  have hn := hp.n2
  have hK := T.pf.n2
  have hK1 := T.pf.n1
  have hups := T.ups
  unfold L11_0; clean_wf
  refine sat_call_ok T.own ?_
  clean_wf; unfold L11_1; clean_wf
  refine sat_atL (by omega) (lnD_get (i := 0) (by omega)) ?_
  clean_wf
  refine sat_atL (by omega) (lnD_get (i := 0) (by omega)) ?_
  refine sat_neR rfl (by rw [T.z]) ?_
  clean_wf
  refine sat_atL (by omega) (by rw [show (((lnD q K).length : Int) - 1).toNat = K by omega]; exact lnD_get (Nat.le_refl K)) ?_
  clean_wf
  refine sat_atL (by omega) (by rw [show (((n + 1 : Nat) : Int) - 1).toNat = n by omega]; exact lnD_get (Nat.le_refl n)) ?_
  refine sat_neR rfl (by rw [T.e]) ?_
  clean_wf
  refine sat_lcM (List.range (K + 1)) (fun i => ptD (q i)) (fun _ => none) ?_
  clean_wf
  refine ⟨lnD_eq q K, fun i hi => ?_, ?_⟩
  · have hi := List.mem_range.mp hi
    obtain ⟨j, hj, e⟩ := T.mem i (by omega)
    clean_wf
    refine sat_notinLf rfl (okD_ln g n) ⟨_, ln_mem hj, by rw [e]; exact eqv_self rfl⟩ ?_
    clean_wf
    rfl
  rw [fm_none]
  clean_wf
  refine sat_neR rfl rfl ?_
  clean_wf; unfold L11_2; clean_wf
  refine sat_call_ok (ups_downs_ok T.pf) ?_
  clean_wf
  refine sat_call_ok (T.due _ (okD_ln q K)) ?_
  rw [eqv_self (okD_ln q K)]
  clean_wf
  refine sat_isntT ?_
  clean_wf; unfold L11_3; clean_wf
  refine sat_lcM (List.range (K - 1)) (fun d => .int ((1 + d : Nat) : Int)) (fun _ => none) ?_
  clean_wf
  refine ⟨_, _, rfl, rfl, by omega, ?_, fun i hi => ?_, ?_⟩
  · rw [show (((lnD q K).length : Int) - 1 - 1).toNat = K - 1 by omega]
    exact rangeD_from 1 (K - 1)
  · have hi := List.mem_range.mp hi
    have hfar := T.far i (by omega)
    clean_wf
    refine sat_atL (by omega) (by rw [show ((1 + i : Nat) : Int).toNat = i + 1 by omega]; exact lnD_get (by omega)) ?_
    clean_wf
    refine sat_atL (by omega) (by rw [show (((1 + i : Nat) : Int) - 1).toNat = i by omega]; exact lnD_get (by omega)) ?_
    clean_wf
    refine if_dec (fun r => ?_) (fun r => ?_)
    · exact absurd r (by
        show ¬ aB ((q (i + 1)).2 - (q i).2) < t
        omega)
    · rfl
  rw [fm_none]
  clean_wf
  refine sat_neR rfl rfl ?_
  clean_wf
  have key : ∀ o18, Sat (run L11_4 (none :: none :: some (.list (lnD g n)) :: some (.int ((n + 1 : Nat) : Int)) :: some (iD (stL g n)) :: some (.int (ups g n)) :: some (.int (dns g n)) :: o7 :: o8 :: o9 :: o10 :: o11 :: o12 :: o13 :: o14 :: o15 :: some (.int t) :: some (.list (lnD q K)) :: o18 :: o19 :: o20 :: o21 :: o22 :: o23 :: o24 :: none :: none :: none :: [])) (Kx (S := List Int) (X := NoE) .nil F) := fun o18 => by
    unfold L11_4; clean_wf
    refine sat_for (fun _ k ρ => ∃ o18 : Option PyData, ρ = (none :: none :: some (.list (lnD g n)) :: some (.int ((n + 1 : Nat) : Int)) :: some (iD (stL g n)) :: some (.int (ups g n)) :: some (.int (dns g n)) :: o7 :: o8 :: o9 :: o10 :: o11 :: o12 :: o13 :: o14 :: o15 :: some (.int t) :: some (.list (lnD q K)) :: o18 :: o19 :: o20 :: o21 :: o22 :: o23 :: o24 :: none :: none :: none :: [])) ?_
    clean_wf
    refine ⟨_, _, rfl, rfl, by omega, ⟨_, rfl⟩, fun k hk ρ => ?_, fun ρ => ?_⟩
    · rintro ⟨o18, rfl⟩
      rw [rangeD_get hk]
      rw [rangeD_len] at hk
      have hk : k < K := by omega
      clean_wf; unfold L11_4_0; clean_wf
      refine sat_lcM (List.range (n + 1)) (fun i => ptD (g i)) (fun _ => none) ?_
      clean_wf
      refine ⟨lnD_eq g n, fun i hi => ?_, ?_⟩
      · have hi := List.mem_range.mp hi
        have hnear := T.near k i hk (by omega)
        clean_wf
        refine sat_atL (by omega) (by rw [show ((1 + (k : Int)) - 1).toNat = k by omega]; exact lnD_get (by omega)) ?_
        clean_wf
        refine if_dec (fun r1 => ?_) (fun r1 => ?_)
        · clean_wf
          refine sat_atL (by omega) (by rw [show (1 + (k : Int)).toNat = k + 1 by omega]; exact lnD_get (by omega)) ?_
          clean_wf
          refine if_dec (fun r2 => ?_) (fun r2 => ?_)
          · clean_wf
            refine sat_atL (by omega) (by rw [show ((1 + (k : Int)) - 1).toNat = k by omega]; exact lnD_get (by omega)) ?_
            clean_wf
            have r3 := hnear r1 r2
            refine if_dec (fun r => ?_) (fun r => ?_)
            · exact absurd r (by
                show ¬ t ≤ aB ((g i).2 - (q k).2)
                omega)
            · rfl
          · refine if_decF r2 ?_
            rfl
        · refine if_decF r1 ?_
          refine if_decF r1 ?_
          rfl
      rw [fm_none]
      clean_wf
      refine sat_neR rfl rfl ?_
      clean_wf
      exact ⟨_, rfl⟩
    · rintro ⟨o18, rfl⟩
      clean_wf
      exact hF _ _
  refine if_dec (fun r => ?_) (fun r => ?_)
  · clean_wf
    refine sat_cutLh (by omega) (by omega) ?_
    clean_wf
    refine sat_cutL2 (by omega) ?_
    have hlen : ((lnD q K).take (Int.toNat 1) ++ (lnD q K).drop (Int.toNat 2)).length = K := by
      rw [List.length_append, List.length_take, List.length_drop, hq]
      show min 1 (K + 1) + (K + 1 - 2) = K
      omega
    have hok : okD (.list ((lnD q K).take (Int.toNat 1) ++ (lnD q K).drop (Int.toNat 2))) = true := (okD_of fun x hx => by
      rcases List.mem_append.mp hx with h | h
      · exact ln_all (List.mem_of_mem_take h)
      · exact ln_all (List.mem_of_mem_drop h)).1
    generalize (lnD q K).take (Int.toNat 1) = A at *
    generalize (lnD q K).drop (Int.toNat 2) = B at *
    rw [List.length_append] at hlen
    refine sat_addL (by omega) ?_
    clean_wf
    refine sat_call_ok (T.due _ hok) ?_
    rw [eqv_lenL (by rw [List.length_append, hq]; omega)]
    clean_wf
    refine sat_isntF ?_
    clean_wf
    exact key _
  · clean_wf
    exact key _
/-! what is seen -/
abbrev ahL (g : Nat → PP) (i k : Nat) : List Nat := ((List.range k).map fun d => i + 1 + d).filter (sb g i)
theorem ahL_succ (g : Nat → PP) (i k : Nat) : ahL g i (k + 1) = if sb g i (i + 1 + k) = true then ahL g i k ++ [i + 1 + k] else ahL g i k := by
  unfold ahL
  rw [List.range_succ, List.map_append, List.filter_append]
  split
  · rename_i h
    rw [show ([k] : List Nat).map (fun d => i + 1 + d) = [i + 1 + k] from rfl, List.filter_cons_of_pos h]
    rfl
  · rename_i h
    rw [show ([k] : List Nat).map (fun d => i + 1 + d) = [i + 1 + k] from rfl, List.filter_cons_of_neg h]
    simp
theorem nD_snoc (l : List Nat) (k : Nat) : nD (l ++ [k]) = nD l ++ [PyData.int (k : Nat)] := by unfold nD; rw [List.map_append]; rfl
theorem ahL_len (g : Nat → PP) (i k : Nat) : (ahL g i k).length ≤ k := by
  unfold ahL
  refine Nat.le_trans (List.length_filter_le _ _) ?_
  simp
/-- the greatest slope from i so far -/
def Bs (g : Nat → PP) (i k : Nat) (d : PyData) : Prop := (k = 0 ∧ d = .none) ∨ ∃ b, i < b ∧ b < i + 1 + k ∧ d = ptD (sl g i b) ∧ ∀ m, i < m → m < i + 1 + k → ((g m).2 - (g i).2) * ((g b).1 - (g i).1) ≤ ((g b).2 - (g i).2) * ((g m).1 - (g i).1)
theorem Bs.yes {i k : Nat} {d : PyData} (h : sb g i (i + 1 + k) = true) : Bs g i (k + 1) (ptD (sl g i (i + 1 + k))) := .inr ⟨i + 1 + k, by omega, by omega, rfl, fun m h1 h2 => by
  by_cases e : m = i + 1 + k
  · subst e; exact Int.le_refl _
  · exact sb_iff.mp h m h1 (by omega)⟩
theorem Bs.no (hp : Pf g n) {i k b : Nat} (hk : i + 1 + k ≤ n) (h1 : i < b) (h2 : b < i + 1 + k) (h3 : ∀ m, i < m → m < i + 1 + k → ((g m).2 - (g i).2) * ((g b).1 - (g i).1) ≤ ((g b).2 - (g i).2) * ((g m).1 - (g i).1)) (h : sb g i (i + 1 + k) = false) : Bs g i (k + 1) (ptD (sl g i b)) := .inr ⟨b, h1, by omega, rfl, fun m m1 m2 => by
  by_cases e : m = i + 1 + k
  · subst e
    have h4 := best_tells hp h1 h2 hk h3
    rw [h] at h4
    have h5 := of_decide_eq_false h4
    rw [sl_le (hp.lt h1 (by omega)) (hp.lt (show i < i + 1 + k by omega) hk)] at h5
    omega
  · exact h3 m m1 (by omega)⟩
theorem sb_next (i : Nat) : sb g i (i + 1 + 0) = true := sb_iff.mpr fun k h1 h2 => by omega
theorem lS (hp : Pf g n) (hh : Hb g n) {i : Nat} (hi : i ≤ n) (hF : ∀ o20 o21 o22 o23 o24, F (.nx (none :: none :: some (.list (lnD g n)) :: some (.int ((n + 1 : Nat) : Int)) :: some (iD (stL g n)) :: some (.int (ups g n)) :: some (.int (dns g n)) :: o7 :: o8 :: o9 :: o10 :: o11 :: o12 :: o13 :: o14 :: o15 :: o16 :: o17 :: o18 :: some (.int (i : Nat)) :: o20 :: o21 :: o22 :: o23 :: o24 :: none :: none :: none :: []))) : Sat (run L12_0 (none :: none :: some (.list (lnD g n)) :: some (.int ((n + 1 : Nat) : Int)) :: some (iD (stL g n)) :: some (.int (ups g n)) :: some (.int (dns g n)) :: o7 :: o8 :: o9 :: o10 :: o11 :: o12 :: o13 :: o14 :: o15 :: o16 :: o17 :: o18 :: some (.int (i : Nat)) :: o20 :: o21 :: o22 :: o23 :: o24 :: none :: none :: none :: [])) (Kx (X := NoE) (.cons L12_1 (.cons L12_2 (.cons L12_3 .nil))) F) := by
  have hl := lnD_len g n
  have hz : sizeLine = 16777216 := sizeLine_eq
  have hn := hp.n2
  unfold L12_0; clean_wf; unfold L12_1; clean_wf
  refine sat_for (fun _ k ρ => ∃ (d : PyData) (o22 o23 : Option PyData), Bs g i k d ∧ ρ = (none :: none :: some (.list (lnD g n)) :: some (.int ((n + 1 : Nat) : Int)) :: some (iD (stL g n)) :: some (.int (ups g n)) :: some (.int (dns g n)) :: o7 :: o8 :: o9 :: o10 :: o11 :: o12 :: o13 :: o14 :: o15 :: o16 :: o17 :: o18 :: some (.int (i : Nat)) :: some (.list (nD (ahL g i k))) :: some d :: o22 :: o23 :: o24 :: none :: none :: none :: [])) ?_
  clean_wf
  refine ⟨_, _, rfl, rfl, by omega, ⟨_, _, _, .inl ⟨rfl, rfl⟩, rfl⟩, fun k hk ρ => ?_, fun ρ => ?_⟩
  · rintro ⟨d, o22, o23, hd, rfl⟩
    rw [rangeD_get hk]
    rw [rangeD_len] at hk
    have hk : i + 1 + k ≤ n := by omega
    have hs := sl_b hp hh (show i < i + 1 + k by omega) hk
    have rs := rd_small ⟨hs.2.2.1, hs.2.2.2⟩ ⟨hs.1, hs.2.1⟩
    have hal := ahL_len g i k
    have e := ahL_succ g i k
    rw [show ((i : Nat) : Int) + 1 + ((k : Nat) : Int) = ((i + 1 + k : Nat) : Int) by omega]
    clean_wf; unfold L12_1_0; clean_wf
    refine sat_atL (by omega) (by rw [Int.toNat_natCast]; exact lnD_get hk) ?_
    clean_wf
    refine sat_atL (by omega) (by rw [Int.toNat_natCast]; exact lnD_get (by omega)) ?_
    clean_wf
    refine sat_atL (by omega) (by rw [Int.toNat_natCast]; exact lnD_get hk) ?_
    clean_wf
    refine sat_atL (by omega) (by rw [Int.toNat_natCast]; exact lnD_get (by omega)) ?_
    clean_wf
    refine sat_call_ok (law_sl_ok hp hh (show i < i + 1 + k by omega) hk) ?_
    clean_wf; unfold L12_1_1; clean_wf
    rcases hd with ⟨rfl, rfl⟩ | ⟨b, b1, b2, rfl, b3⟩
    · clean_wf
      exact ⟨_, _, _, Bs.yes (d := .none) (sb_next i), by rw [e, if_pos (sb_next i)]; rfl⟩
    · have hsb := sl_b hp hh b1 (show b ≤ n by omega)
      have rb := rd_small ⟨hsb.2.2.1, hsb.2.2.2⟩ ⟨hsb.1, hsb.2.1⟩
      clean_wf
      refine sat_call_ok (is_at_most_ok (p := sl g i b) (q := sl g i (i + 1 + k)) ⟨rb.2.2.1, rb.2.2.2⟩ ⟨rs.2.2.1, rs.2.2.2⟩) ?_
      rw [best_tells hp b1 b2 hk b3]
      refine if_bool (fun r => ?_) (fun r => ?_)
      · clean_wf
        refine ⟨by rw [List.length_map]; omega, ?_⟩
        clean_wf
        exact ⟨_, _, _, Bs.yes (d := .none) r, by rw [e, if_pos r, nD_snoc]; rfl⟩
      · clean_wf
        exact ⟨_, _, _, Bs.no hp hk b1 b2 b3 r, by rw [e, if_neg (by rw [r]; decide)]; rfl⟩
  · rintro ⟨d, o22, o23, hd, rfl⟩
    rw [rangeD_len, show (((n + 1 : Nat) : Int) - (((i : Nat) : Int) + 1)).toNat = n - i by omega]
    have er := seen_right (g := g) hi
    clean_wf; unfold L12_2; clean_wf
    refine sat_call_ok (seen_ok hp hh hi) ?_
    clean_wf; unfold L12_3; clean_wf
    refine sat_lcM (seenL g n i) (fun j => .int (j : Nat)) (fun j => if decide (i < j) = true then some (.int (j : Nat)) else none) ?_
    clean_wf
    refine ⟨fun j hj => ?_, ?_⟩
    · clean_wf
      refine if_dec (fun r => ?_) (fun r => ?_)
      · clean_wf
        rw [decide_eq_true (by omega)]; rfl
      · rw [decide_eq_false (by omega)]; rfl
    rw [fm_filter (fun j => decide (i < j)) fun j => PyData.int (j : Nat), er]
    clean_wf
    refine sat_neR (okD_nD _) rfl ?_
    clean_wf
    refine sat_lcM (seenL g n i) (fun j => .int (j : Nat)) (fun _ => none) ?_
    clean_wf
    refine ⟨fun j hj => ?_, ?_⟩
    · have hjn := (seen_mem.mp hj).1
      have hs := seen_sym hi hj
      clean_wf
      refine sat_call_ok (seen_ok hp hh hjn) ?_
      clean_wf
      refine sat_notinLf rfl (okD_nD _) ⟨.int (i : Nat), List.mem_map.mpr ⟨i, hs, rfl⟩, eqv_self rfl⟩ ?_
      clean_wf
      rfl
    rw [fm_none]
    clean_wf
    refine sat_neR rfl rfl ?_
    clean_wf
    refine sat_call_ok (sees_ok hp hh hi) ?_
    clean_wf
    refine sat_isntT ?_
    clean_wf
    exact hF _ _ _ _ _
end
theorem law_ok04 : Sat (runs b_law (List.replicate N_law.length none)) (FinQ (· = .bool true)) := by
  have hz : sizeLine = 16777216 := sizeLine_eq
  rw [Leq]
  show Sat (runs _ [none, none, none, none, none, none, none, none, none, none, none, none, none, none, none, none, none, none, none, none, none, none, none, none, none, none, none, none]) _
  refine sat_st ?_
  unfold L0; clean_wf
  refine pick_ok (by simp) fun d hd => ?_
  have hd2 : ∃ f : Int, d = .int f ∧ 0 < f ∧ f ≤ 900 := by
    simp only [List.mem_cons, List.not_mem_nil, or_false] at hd
    rcases hd with rfl | rfl <;> exact ⟨_, rfl, by omega, by omega⟩
  obtain ⟨far, rfl, hf⟩ := hd2
  clean_wf
  refine pick_ok (by simp) fun d hd => ?_
  have hd2 : ∃ f : Int, d = .int f ∧ 0 < f ∧ f ≤ 100000 := by
    simp only [List.mem_cons, List.not_mem_nil, or_false] at hd
    rcases hd with rfl | rfl | rfl <;> exact ⟨_, rfl, by omega, by omega⟩
  obtain ⟨high, rfl, hh⟩ := hd2
  clean_wf
  refine law_profile_ok (by omega) hf hh fun g n hp hb => ?_
  clean_wf
  have hn := hp.n2
  have hn1 := hp.n1
  refine lA hp hb ?_
  refine lB hp hb fun f u d o7 o12 s => ?_
  refine lC hp hb s fun o13 o14 o15 => ?_
  unfold L11; clean_wf
  refine sat_for (fun xs _ ρ => (∀ x ∈ xs, ∃ t, x = .int t ∧ 0 ≤ t ∧ t ≤ 100000) ∧ ∃ o16 o17 o18 : Option PyData, ρ = (none :: none :: some (.list (lnD g n)) :: some (.int ((n + 1 : Nat) : Int)) :: some (iD (stL g n)) :: some (.int (ups g n)) :: some (.int (dns g n)) :: o7 :: some (.int f) :: some (.int u) :: some (.int d) :: some (ptD (tm (g n).1 (ups g n) (dns g n) f u d)) :: o12 :: o13 :: o14 :: o15 :: o16 :: o17 :: o18 :: none :: none :: none :: none :: none :: none :: none :: none :: none :: [])) ?_
  clean_wf
  refine sat_take (by omega) fun t1 t11 t12 => ?_
  clean_wf
  refine sat_take (by omega) fun t2 t21 t22 => ?_
  clean_wf
  refine sat_take (by omega) fun t3 t31 t32 => ?_
  clean_wf
  refine ⟨⟨fun x hx => ?_, _, _, _, rfl⟩, fun k hk ρ => ?_, fun ρ => ?_⟩
  · simp only [List.mem_cons, List.not_mem_nil, or_false] at hx
    rcases hx with rfl | rfl | rfl <;> exact ⟨_, rfl, by omega, by omega⟩
  · rintro ⟨hall, o16, o17, o18, rfl⟩
    obtain ⟨t, et, ht⟩ := hall _ (List.getElem_mem hk)
    rw [et]
    clean_wf
    refine lT (tn_ok hp ht) hp fun o17 o18 => ?_
    exact ⟨hall, _, _, _, rfl⟩
  · rintro ⟨hall, o16, o17, o18, rfl⟩
    clean_wf; unfold L12; clean_wf
    refine sat_for (fun xs _ ρ => (∀ x ∈ xs, ∃ i : Nat, x = .int (i : Nat) ∧ i ≤ n) ∧ ∃ o19 o20 o21 o22 o23 o24 : Option PyData, ρ = (none :: none :: some (.list (lnD g n)) :: some (.int ((n + 1 : Nat) : Int)) :: some (iD (stL g n)) :: some (.int (ups g n)) :: some (.int (dns g n)) :: o7 :: some (.int f) :: some (.int u) :: some (.int d) :: some (ptD (tm (g n).1 (ups g n) (dns g n) f u d)) :: o12 :: o13 :: o14 :: o15 :: o16 :: o17 :: o18 :: o19 :: o20 :: o21 :: o22 :: o23 :: o24 :: none :: none :: none :: [])) ?_
    clean_wf
    refine sat_take (by omega) fun v v1 v2 => ?_
    clean_wf
    refine ⟨⟨fun x hx => ?_, _, _, _, _, _, _, rfl⟩, fun k hk ρ => ?_, fun ρ => ?_⟩
    · simp only [List.mem_cons, List.not_mem_nil, or_false] at hx
      rcases hx with rfl | rfl | rfl
      · exact ⟨0, rfl, by omega⟩
      · exact ⟨n, by rw [show ((n + 1 : Nat) : Int) - 1 = (n : Nat) by omega], Nat.le_refl n⟩
      · obtain ⟨i, rfl⟩ := Int.eq_ofNat_of_zero_le v1
        exact ⟨i, rfl, by omega⟩
    · rintro ⟨hall, o19, o20, o21, o22, o23, o24, rfl⟩
      obtain ⟨i, ei, hi⟩ := hall _ (List.getElem_mem hk)
      rw [ei]
      clean_wf
      refine lS hp hb hi fun o20 o21 o22 o23 o24 => ?_
      exact ⟨hall, _, _, _, _, _, _, rfl⟩
    · rintro ⟨hall, o19, o20, o21, o22, o23, o24, rfl⟩
      clean_wf; unfold L13; clean_wf
      refine (tops_due_ok hp hb).imp fun x hx => ?_
      subst hx
      clean_wf
      rfl
end K04

set_option Elab.async false
set_option linter.all false
set_option maxRecDepth 100000
set_option maxHeartbeats 0
namespace K04
open PySem PySem.Spec PyProof.Rows L2 Mir

theorem sd_ok (ns : List Int) (h : ns.length ≤ 63) : ∃ st : List Int, drawsR N_draws.length cell_draws b_draws1 b_draws2 b_draws3 ns = .ok (.ret (.list (st.map PyData.int)), ()) ∧ st.length ≤ sizeLine := draws1_ok 1600 (by decide) ns h
theorem sem_ok (st : List Int) : ∃ st', runs b_law (List.replicate N_law.length none) st = .ok (.ret (.bool true), st') := by
  obtain ⟨fl, s', e, h⟩ := law_ok04.get st
  cases fl with
  | ret d =>
    have : d = .bool true := h
    subst this
    exact ⟨s', e⟩
  | nx ρ => nomatch (show PyData.none = .bool true from h)
  | brk ρ => exact (show False from h).elim
  | cnt ρ => exact (show False from h).elim
theorem final {P : Program} {w : World} {K : PySem.W.Frag} {h : Heap} {mg : Str → Option Value} {f : Addr} (X : K.In h) (G : h.Ns mainGlobals mg) (hfa : mg ("law" : Str) = some (.ref f)) (c : He.SaysD fa fn K) (he : ex K = true) :
    ∃ fd : FuncData, (∀ (s : Shared) (v : Value), BindsTo s fd ⟨[v], []⟩ [("script", v)]) ∧ ∀ base : Heap, K.In base → base.Ns mainGlobals mg → FnOk P w K mg base (L2.CX P w) 14 f fd ["script"] (spLaw K) := by
  have F0 : Facts K mg := facts X G c he
  obtain ⟨f', fd, F, hx⟩ := F0.d_law
  have e := hfa.symm.trans hx
  cases e
  have b := FunD.bindsA (ps := ["script"]) F fun _ _ _ _ _ _ us hl => match us, hl with | [_], _ => by kernel_rfl
  exact ⟨fd, fun s v => b s [v] rfl, fun base _ _ => ok_law F0 F (fun ns h => sd_ok ns h) sem_ok⟩
end K04
open PySem PySem.W PySem.Calls PyProof.Rows
theorem PySem.Challenge.cw_signward_k04_whole_long_profiles_holds : PySem.Challenge.rw_signward_k04_whole_long_profiles.Holds := by
  w_on; o_law
  refine HandSHeadRun.head_any (r := K04.Rw) (q := K04.qv) (H := K04.hk) (ob := K04.ob) (M := 3000) (loose := K04.loose) (d := HandSHeadRun.topDef K04.Rw.prog 54) (kwd := []) K04.ob_eq
    (by kernel_rfl) (fun s => by kernel_rfl) K04.headRun (by kernel_rfl) (by kernel_rfl) (by kernel_rfl) (by rfl) (by first | assumption | decide +kernel) (by decide +kernel) ⟨rfl, rfl, rfl, rfl, rfl, by decide +kernel⟩ ?hw ?hc
  case hw => w_witness2
  case hc =>
    refine Mir.walkW (lw := PySem.Challenge.rw_signward_k04_whole_long_profiles) (most := 63) (k := 14) (nm := "script") (fun w => L2.CX (PySem.Challenge.rw_signward_k04_whole_long_profiles).prog w) rfl (by decide) (by kernel_rfl) ⟨rfl, by decide, by decide⟩ ?F ?X
    case X =>
      rintro w H s e s' ⟨_, _, _, _, _, _, _, _, _, _, _, _, z⟩
      exact z
    case F =>
      intro w mg fa h Y G hmg0
      obtain ⟨K, KX, c, he⟩ := Y
      have hmg : mg ("law" : PySem.Str) = some (.ref fa) := by
        have e : (HandSHeadRun.topDef K04.Rw.prog 54).name = ("law" : PySem.Str) := by kernel_rfl
        rw [← e]
        exact hmg0
      obtain ⟨fd, hb, hF⟩ := K04.final (P := (PySem.Challenge.rw_signward_k04_whole_long_profiles).prog) (w := w) KX G hmg c he
      exact ⟨K, fd, Mir.spLaw K, KX, hb, fun H a ns hl hS => ⟨a, ns, rfl, hl, hS, fun _ => rfl⟩, hF⟩

