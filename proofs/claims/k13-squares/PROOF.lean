import PyProof.Rows.All
import HandS.ForMost
import HandS.DictComp
import HandS.IsInst
import HandS.Flow
import HandS.Exc
import HandS.TryOnly
import HandS.ExcOwn
import HandS.WordsExc
import HandS.Conv
import HandS.TupAny
import HandS.TupLen
import HandS.CallSlots
import HandS.SortInts
import HandS.Style
import HandS.Replace
import KE.LtData
import KE.DataCmp
import KE.DataEq
import KE.DataAny
import KE.DataFind
import KE.DataIsa
import KE.DataMinMax
import KE.SortData
import HandS.Rev
import HandS.Zip
import HandS.Defaults
import HandS.Head0
import HandS.Head1
import HandS.Head2
import HandS.HeadEnd
import HandS.HeadHook1
import HandS.HeadHook2
import PyProof.ExcBaseAll.ValueError
import HandS.ExcIs
import HandS.HotCalls
import PySem.Challenge.RW_signward_k13_whole_squares_of_the_map
set_option Elab.async false
set_option linter.all false
set_option maxRecDepth 100000
/-! Mir, part A: data, outcomes, the small language and what it means. -/
namespace Mir
open PySem

/-- an outcome -/
inductive R (α : Type) where
  | ok (a : α)
  | exc (x : Str) (l : List PyData)
  | bad
def R.bind {α β : Type} (r : R α) (f : α → R β) : R β := match r with
  | .ok a => f a
  | .exc x l => .exc x l
  | .bad => .bad
abbrev M (S α : Type) := S → R (α × S)
def bnd {S α β : Type} (m : M S α) (f : α → M S β) : M S β := fun s => (m s).bind fun p => f p.1 p.2
def lft {S α : Type} (r : R α) : M S α := fun s => r.bind fun a => .ok (a, s)
def ret {S α : Type} (a : α) : M S α := fun s => .ok (a, s)

theorem bnd_ret {S α β : Type} (a : α) (f : α → M S β) : bnd (ret a) f = f a := rfl
theorem bnd_ok {S α β : Type} {m : M S α} {f : α → M S β} {s s' : S} {a : α} (h : m s = .ok (a, s')) : bnd m f s = f a s' := by unfold bnd; rw [h]; rfl
theorem lft_ok {S α : Type} (a : α) : lft (S := S) (.ok a) = ret a := rfl

abbrev Env := List (Option PyData)

/-! ### operations on data -/
def small (i : Int) : Bool := decide (i.natAbs < 2 ^ 64)
def binD : Operator → PyData → PyData → R PyData
  | .Add, .int i, .int j => .ok (.int (i + j))
  | .Add, .str a, .str b => if a.length + b.length ≤ sizeLine then .ok (.str (a ++ b)) else .bad
  | .Add, .list a, .list b => if a.length + b.length ≤ sizeLine then .ok (.list (a ++ b)) else .bad
  | .Add, .tuple a, .tuple b => if a.length + b.length ≤ sizeLine then .ok (.tuple (a ++ b)) else .bad
  | .Sub, .int i, .int j => .ok (.int (i - j))
  | .Mult, .int i, .int j => if small i || small j then .ok (.int (i * j)) else .bad
  | .Mult, .list a, .int k => if k.natAbs < 2 ^ 62 ∧ a.length * k.toNat ≤ sizeLine then .ok (.list (List.replicate k.toNat a).flatten) else .bad
  | .FloorDiv, .int i, .int j => if 0 < j ∧ j < 1073741824 then .ok (.int (i / j)) else .bad
  | .Mod, .int i, .int j => if 0 < j then .ok (.int (i % j)) else .bad
  | .Pow, .int i, .int j => if 0 ≤ j ∧ j ≤ 1000000 ∧ small i = true then .ok (.int (i ^ j.toNat)) else .bad
  | _, _, _ => .bad
def truthy : PyData → Bool
  | .none => false
  | .bool b => b
  | .int i => i != 0
  | .str x => x.length != 0
  | .list xs => !xs.isEmpty
  | .tuple xs => !xs.isEmpty
  | .dict xs => !xs.isEmpty
/-- no dict within, not too deep -/
def okD (d : PyData) : Bool := d.plain && decide (d.depth ≤ 60)
def isNone : PyData → Bool
  | .none => true
  | _ => false
def flatK : PyData → Bool
  | .int _ => true
  | .str _ => true
  | _ => false
/-- a key that is served: a number, a text, a tuple of such -/
def keyD : PyData → Bool
  | .int _ => true
  | .str _ => true
  | .tuple ds => ds.all flatK
  | _ => false
def isTup : PyData → Bool
  | .tuple _ => true
  | _ => false
/-- a key of the dict's kind -/
def kindOk (kvs : List (PyData × PyData)) (k : PyData) : Bool := keyD k && (match kvs with
  | [] => true
  | p :: _ => isTup p.1 == isTup k)
def lookD : List (PyData × PyData) → PyData → Option PyData
  | [], _ => none
  | (k, d) :: r, x => if k.eqv x then some d else lookD r x
def putD (kvs : List (PyData × PyData)) (x y : PyData) : List (PyData × PyData) := if (kvs.any fun p => p.1.eqv x) = true then kvs.map (fun p => if p.1.eqv x = true then (p.1, y) else p) else kvs ++ [(x, y)]
def ltOk (a b : PyData) : Bool := W.alike a b && !isNone a && okD a && okD b
def cmpD : CmpOp → PyData → PyData → R PyData
  | .Eq, a, b => if okD a && okD b then .ok (.bool (PyData.eqv a b)) else .bad
  | .NotEq, a, b => if okD a && okD b then .ok (.bool (!PyData.eqv a b)) else .bad
  | .Lt, a, b => if ltOk a b then .ok (.bool (W.dataLt a b)) else .bad
  | .Gt, a, b => if ltOk a b then .ok (.bool (W.dataLt b a)) else .bad
  | .LtE, a, b => if ltOk a b then .ok (.bool (!W.dataLt b a)) else .bad
  | .GtE, a, b => if ltOk a b then .ok (.bool (!W.dataLt a b)) else .bad
  | .Is, a, .none => .ok (.bool (isNone a))
  | .IsNot, a, .none => .ok (.bool (!isNone a))
  | .In, x, .list xs => if okD x && okD (.list xs) then .ok (.bool (xs.any fun y => PyData.eqv y x)) else .bad
  | .In, x, .tuple xs => if okD x && okD (.tuple xs) then .ok (.bool (xs.any fun y => PyData.eqv y x)) else .bad
  | .In, .str x, .str y => .ok (.bool (!(Builtin.Str.occurrences y x 0 y.length 1).isEmpty))
  | .In, x, .dict kvs => if kindOk kvs x then .ok (.bool (lookD kvs x).isSome) else .bad
  | .NotIn, x, .list xs => if okD x && okD (.list xs) then .ok (.bool (!xs.any fun y => PyData.eqv y x)) else .bad
  | .NotIn, x, .tuple xs => if okD x && okD (.tuple xs) then .ok (.bool (!xs.any fun y => PyData.eqv y x)) else .bad
  | .NotIn, .str x, .str y => .ok (.bool (!(!(Builtin.Str.occurrences y x 0 y.length 1).isEmpty)))
  | .NotIn, x, .dict kvs => if kindOk kvs x then .ok (.bool (!(lookD kvs x).isSome)) else .bad
  | _, _, _ => .bad
def optR {α : Type} : Option α → R α
  | some a => .ok a
  | none => .bad
def subD : PyData → PyData → R PyData
  | .list xs, .int i => optR (L2.atI xs i)
  | .tuple xs, .int i => optR (L2.atI xs i)
  | .str x, .int i => optR ((L2.atI x.cps.toList i).map fun c => .str ⟨#[c]⟩)
  | .dict kvs, k => if kindOk kvs k then optR (lookD kvs k) else .bad
  | _, _ => .bad
def cutD (xs : List PyData) (lo hi : Option Int) : List PyData := (xs.drop (HT.sIx xs.length 0 lo)).take (HT.sIx xs.length xs.length hi - HT.sIx xs.length 0 lo)
def cutS (x : Str) (lo hi : Option Int) : Str := L2.cutS x lo hi
def cutX : PyData → Option Int → Option Int → R PyData
  | .list xs, lo, hi => .ok (.list (cutD xs lo hi))
  | .tuple xs, lo, hi => .ok (.tuple (cutD xs lo hi))
  | .str x, lo, hi => .ok (.str (cutS x lo hi))
  | _, _, _ => .bad
def intR : PyData → R Int
  | .int i => .ok i
  | _ => .bad
def itemsR : PyData → R (List PyData)
  | .list xs => .ok xs
  | .tuple xs => .ok xs
  | _ => .bad
def alikes (xs : List PyData) : Bool := xs.all fun a => okD a && !isNone a && xs.all fun b => W.alike a b
def isTup1 : PyData → Bool
  | .tuple (_ :: _) => true
  | _ => false
def sortable (xs : List PyData) : Bool := alikes xs && ((xs.all isTup1) || (xs.all fun d => !isTup d))
def sortD (xs : List PyData) : List PyData := xs.mergeSort (W.dataLe false id)
def allInts : List PyData → Option (List Int)
  | [] => some []
  | .int i :: r => (allInts r).map (i :: ·)
  | _ :: _ => none

/-- built-in functions by values -/
inductive B where
  | len | tuple_ | list_ | sorted | all_ | any_ | int_ | sum | min1 | max1 | min2 | max2 | abs | str_ | lenSet | sortedSet | listRev | listRange1 | listRange2
  deriving DecidableEq
def lenD : PyData → R PyData
  | .list xs => .ok (.int xs.length)
  | .tuple xs => .ok (.int xs.length)
  | .str x => .ok (.int x.length)
  | .dict xs => .ok (.int xs.length)
  | _ => .bad
def minR : List PyData → R PyData
  | [] => .bad
  | x :: xs => if alikes (x :: xs) then .ok (W.minD x xs) else .bad
def maxR : List PyData → R PyData
  | [] => .bad
  | x :: xs => if alikes (x :: xs) then .ok (W.maxD x xs) else .bad
def one (f : PyData → R PyData) : List PyData → R PyData
  | [d] => f d
  | _ => .bad
def two (f : PyData → PyData → R PyData) : List PyData → R PyData
  | [d, e] => f d e
  | _ => .bad
def sortedD : PyData → R PyData
  | .list xs => if sortable xs then .ok (.list (sortD xs)) else .bad
  | _ => .bad
def allD : PyData → R PyData
  | .list xs => if xs.all okD then .ok (.bool (xs.all truthy)) else .bad
  | _ => .bad
def anyD : PyData → R PyData
  | .list xs => if xs.all okD then .ok (.bool (xs.any truthy)) else .bad
  | _ => .bad
def intD : PyData → R PyData
  | .int i => .ok (.int i)
  | .bool b => .ok (.int (if b then 1 else 0))
  | .str x => match PySem.intText? x with
    | some n => if x.length ≤ 640 then .ok (.int n) else .bad
    | none => .bad
  | _ => .bad
def sumD : PyData → R PyData
  | .list xs => match allInts xs with
    | some ns => .ok (.int ns.sum)
    | none => .bad
  | _ => .bad
def min2D (a b : PyData) : R PyData := (intR a).bind fun i => (intR b).bind fun j => .ok (.int (if j < i then j else i))
def max2D (a b : PyData) : R PyData := (intR a).bind fun i => (intR b).bind fun j => .ok (.int (if j > i then j else i))
def absD (a : PyData) : R PyData := (intR a).bind fun i => .ok (.int (if i < 0 then -i else i))
def strD (a : PyData) : R PyData := (intR a).bind fun i => if i.natAbs.log2 < 1920 then .ok (.str (toString i)) else .bad
def bltD : B → List PyData → R PyData
  | .len, ds => one lenD ds
  | .tuple_, ds => one (fun d => (itemsR d).bind fun xs => .ok (.tuple xs)) ds
  | .list_, ds => one (fun d => (itemsR d).bind fun xs => .ok (.list xs)) ds
  | .sorted, ds => one sortedD ds
  | .all_, ds => one allD ds
  | .any_, ds => one anyD ds
  | .int_, ds => one intD ds
  | .sum, ds => one sumD ds
  | .min1, ds => one (fun d => (itemsR d).bind minR) ds
  | .max1, ds => one (fun d => (itemsR d).bind maxR) ds
  | .min2, ds => two min2D ds
  | .max2, ds => two max2D ds
  | .abs, ds => one absD ds
  | .str_, ds => one strD ds
  | _, _ => .bad
/-- built-in classes that are asked about -/
inductive Ty where
  | int | bool | str | tuple | list | dict
  deriving DecidableEq
def isaD : Ty → PyData → Bool
  | .int, .int _ => true
  | .int, .bool _ => true
  | .bool, .bool _ => true
  | .str, .str _ => true
  | .tuple, .tuple _ => true
  | .list, .list _ => true
  | .dict, .dict _ => true
  | _, _ => false
/-- other reading forms of one, two, three parts -/
inductive O1 where
  | rev | dictOf | lenSet
  deriving DecidableEq
inductive O2 where
  | sindex | get1 | lindex
  deriving DecidableEq
inductive O3 where
  | get2
  deriving DecidableEq
/-- pairs, as dict(..) takes them -/
def pairsD : List PyData → Option (List (PyData × PyData))
  | [] => some []
  | .tuple [k, d] :: r => if flatK k then (pairsD r).map ((k, d) :: ·) else none
  | _ :: _ => none
def mergeD (kvs : List (PyData × PyData)) (l : List (PyData × PyData)) : List (PyData × PyData) := l.foldl (fun a p => putD a p.1 p.2) kvs
/-- each once, as first met -/
def onceD (l : List PyData) : List PyData := l.foldl (fun a d => if a.any (fun x => PyData.eqv x d) = true then a else a ++ [d]) []
def op1D : O1 → PyData → R PyData
  | .rev, .list xs => .ok (.list xs.reverse)
  | .dictOf, .list xs => match pairsD xs with
    | some l => .ok (.dict (mergeD [] l))
    | none => .bad
  | .lenSet, .list xs => if xs.all flatK = true ∧ xs.length ≤ 4000 then .ok (.int (onceD xs).length) else .bad
  | _, _ => .bad
def op2D : O2 → PyData → PyData → R PyData
  | .sindex, .str a, .str b => match Builtin.Str.occurrences a b 0 a.length 1 with
    | i :: _ => .ok (.int (i : Nat))
    | [] => .bad
  | .lindex, .list xs, .int i => match allInts xs with
    | some ns => (match ns.findIdx? fun n => decide (n = i) with
      | some j => .ok (.int (j : Nat))
      | none => .bad)
    | none => .bad
  | .get1, .dict kvs, k => if kindOk kvs k then .ok ((lookD kvs k).getD .none) else .bad
  | _, _, _ => .bad
def op3D : O3 → PyData → PyData → PyData → R PyData
  | .get2, .dict kvs, k, d => if kindOk kvs k then .ok ((lookD kvs k).getD d) else .bad
  | _, _, _, _ => .bad

/-- what the first part has to be -/
def ok2 : O2 → PyData → Bool
  | .sindex, .str _ => true
  | .get1, .dict _ => true
  | .lindex, .list _ => true
  | _, _ => false
def ok3 : O3 → PyData → Bool
  | .get2, .dict _ => true
  | _, _ => false

/-- a dict of the module, its keys and values numbers, looked up -/
def subGD (kvs : List (Int × Int)) : PyData → R PyData
  | .int k => match kvs.find? fun p => decide (p.1 = k) with
    | some p => .ok (.int p.2)
    | none => .bad
  | _ => .bad

/-! ### the language -/
/-- targets -/
inductive Tg where
  | nm (i : Nat)
  | tup (is : List Nat)
mutual
inductive E (S : Type) : Type where
  | v (i : Nat)
  | int (i : Int) | bl (b : Bool) | non | str (x : Str)
  | glob (x : Str) (d : PyData)
  | bin (op : Operator) (a b : E S)
  | neg (a : E S)
  | not_ (a : E S)
  | and_ (a b : E S) | or_ (a b : E S) | one (a : E S)
  | cmp (op : CmpOp) (a b : E S)
  | chain (o1 o2 : CmpOp) (a b c : E S)
  | ite (c a b : E S)
  | tup (es : Es S) | lst (es : Es S)
  | dict0
  | sub (a i : E S)
  | sl (a lo hi : E S) | slL (a lo : E S) | slH (a hi : E S)
  | call (nm : Str) (m : List PyData → R PyData) (es : Es S)
  | callS (nm : Str) (m : List PyData → S → R (PyData × S)) (es : Es S)
  | blt (f : B) (es : Es S)
  | isa (t : Ty) (a : E S)
  | subG (x : Str) (kvs : List (Int × Int)) (i : E S)
  | op1 (f : O1) (a : E S)
  | op2 (f : O2) (a b : E S)
  | op3 (f : O3) (a b c : E S)
  | lc (elt : E S) (tg : Tg) (it : It S) (c : E S) (own : List (Str × Nat))
  | pick (fs : List (Str × (List PyData → R PyData))) (i : E S) (es : Es S)
inductive Es (S : Type) : Type where
  | nil
  | cons (a : E S) (r : Es S)
/-- what is walked -/
inductive It (S : Type) : Type where
  | of (a : E S)
  | range1 (a : E S) | range2 (a b : E S)
  | zip (a b : E S)
  | enum (a : E S)
  | sign (a : E S)
  | range3 (a b c : E S)
  | rev (a : E S)
end

def setAll : List Nat → List PyData → Env → Env
  | i :: is, d :: ds, ρ => setAll is ds (ρ.set i (some d))
  | _, _, ρ => ρ
def asg : Tg → PyData → Env → R Env
  | .nm i, d, ρ => .ok (ρ.set i (some d))
  | .tup is, .tuple ds, ρ => if ds.length = is.length then .ok (setAll is ds ρ) else .bad
  | .tup _, _, _ => .bad
def getV (ρ : Env) (i : Nat) : R PyData := match ρ[i]? with
  | some (some d) => .ok d
  | _ => .bad
def wipeE : Env → List Nat → Env
  | ρ, [] => ρ
  | ρ, i :: r => (wipeE ρ r).set i none
def rangeD (lo : Int) (n : Nat) : List PyData := (List.range n).map fun (k : Nat) => .int (lo + (k : Int))
/-- what raises is not served here -/
def nx {S α : Type} (m : M S α) : M S α := fun s => match m s with
  | .exc _ _ => .bad
  | r => r
/-- the loop of a comprehension -/
def lcGo {S : Type} (f : PyData → M S (Option PyData)) : List PyData → M S (List PyData)
  | [] => ret []
  | x :: xs => bnd (f x) fun o => bnd (lcGo f xs) fun r => ret (match o with | some y => y :: r | none => r)
def partR : PyData → R Int := intR
def zipD : PyData → PyData → R (List PyData)
  | .list xs, .list ys => .ok ((xs.zip ys).map fun p => .tuple [p.1, p.2])
  | .tuple xs, .tuple ys => .ok ((xs.zip ys).map fun p => .tuple [p.1, p.2])
  | _, _ => .bad
def enumD : PyData → R (List PyData)
  | .list xs => .ok (xs.zipIdx.map fun p => .tuple [.int p.2, p.1])
  | _ => .bad
def signD : PyData → R (List PyData)
  | .str z => .ok (z.cps.toList.map fun c => .str ⟨#[c]⟩)
  | _ => .bad
/-- one of some defs -/
def pickD (fs : List (Str × (List PyData → R PyData))) : PyData → Option (Str × (List PyData → R PyData))
  | .int n => if 0 ≤ n then fs[n.toNat]? else none
  | _ => none
/-- range(i, j, c) -/
def range3D (i j c : Int) : R (List PyData) := if c ≠ 0 ∧ c.natAbs < 1073741824 ∧ Builtin.Range.small i j c = true ∧ 0 ≤ Builtin.Range.rangeSize i j c ∧ Builtin.Range.rangeSize i j c ≤ sizeLine then .ok ((List.range (Builtin.Range.rangeSize i j c).toNat).map fun (k : Nat) => .int (i + (k : Int) * c)) else .bad
mutual
def ev {S : Type} : E S → Env → M S PyData
  | .v i, ρ => lft (getV ρ i)
  | .int i, _ => ret (.int i)
  | .bl b, _ => ret (.bool b)
  | .non, _ => ret .none
  | .str x, _ => if x.length ≤ sizeLine then ret (.str x) else lft .bad
  | .glob _ d, _ => ret d
  | .bin op a b, ρ => bnd (ev a ρ) fun x => bnd (ev b ρ) fun y => lft (binD op x y)
  | .neg a, ρ => bnd (ev a ρ) fun x => lft ((intR x).bind fun i => .ok (.int (-i)))
  | .not_ a, ρ => bnd (ev a ρ) fun x => ret (.bool (!truthy x))
  | .and_ a b, ρ => bnd (ev a ρ) fun x => if truthy x = true then ev b ρ else ret x
  | .or_ a b, ρ => bnd (ev a ρ) fun x => if truthy x = true then ret x else ev b ρ
  | .one a, ρ => ev a ρ
  | .cmp op a b, ρ => bnd (ev a ρ) fun x => bnd (ev b ρ) fun y => lft (cmpD op x y)
  | .chain o1 o2 a b c, ρ => bnd (ev a ρ) fun x => bnd (ev b ρ) fun y => bnd (lft (cmpD o1 x y)) fun z => if truthy z = true then bnd (ev c ρ) fun w => lft (cmpD o2 y w) else ret z
  | .ite c a b, ρ => bnd (ev c ρ) fun x => if truthy x = true then ev a ρ else ev b ρ
  | .tup es, ρ => bnd (evs es ρ) fun xs => if xs.length ≤ sizeLine then ret (.tuple xs) else lft .bad
  | .lst es, ρ => bnd (evs es ρ) fun xs => if xs.length ≤ sizeLine then ret (.list xs) else lft .bad
  | .dict0, _ => ret (.dict [])
  | .sub a i, ρ => bnd (ev a ρ) fun x => bnd (ev i ρ) fun y => lft (subD x y)
  | .slL a lo, ρ => bnd (ev a ρ) fun x => bnd (ev lo ρ) fun l => lft ((intR l).bind fun l => cutX x (some l) none)
  | .slH a hi, ρ => bnd (ev a ρ) fun x => bnd (ev hi ρ) fun h => lft ((intR h).bind fun h => cutX x none (some h))
  | .sl a lo hi, ρ => bnd (ev a ρ) fun x => bnd (ev lo ρ) fun l => bnd (lft (intR l)) fun l => bnd (ev hi ρ) fun h => lft ((intR h).bind fun h => cutX x (some l) (some h))
  | .call _ m es, ρ => bnd (evs es ρ) fun xs => lft (m xs)
  | .callS _ m es, ρ => bnd (evs es ρ) fun xs => m xs
  | .blt f es, ρ => bnd (evs es ρ) fun xs => lft (bltD f xs)
  | .isa t a, ρ => bnd (ev a ρ) fun x => ret (.bool (isaD t x))
  | .subG _ kvs i, ρ => bnd (ev i ρ) fun y => lft (subGD kvs y)
  | .op1 f a, ρ => bnd (ev a ρ) fun x => lft (op1D f x)
  | .op2 f a b, ρ => bnd (ev a ρ) fun x => if ok2 f x = true then bnd (ev b ρ) fun y => lft (op2D f x y) else lft .bad
  | .op3 f a b c, ρ => bnd (ev a ρ) fun x => if ok3 f x = true then bnd (ev b ρ) fun y => bnd (ev c ρ) fun z => lft (op3D f x y z) else lft .bad
  | .lc elt tg it c own, ρ => bnd (evIt it ρ) fun xs => bnd (lcGo (fun x => nx (bnd (lft (asg tg x (wipeE ρ (own.map (·.2))))) fun ρ' => bnd (ev c ρ') fun t => if truthy t = true then bnd (ev elt ρ') fun y => ret (some y) else ret none)) xs) fun ys => ret (.list ys)
  | .pick fs i es, ρ => bnd (ev i ρ) fun x => match pickD fs x with
    | some p => bnd (evs es ρ) fun xs => lft (p.2 xs)
    | none => lft .bad
def evs {S : Type} : Es S → Env → M S (List PyData)
  | .nil, _ => ret []
  | .cons a r, ρ => bnd (ev a ρ) fun x => bnd (evs r ρ) fun xs => ret (x :: xs)
def evIt {S : Type} : It S → Env → M S (List PyData)
  | .of a, ρ => bnd (ev a ρ) fun x => lft (itemsR x)
  | .range1 a, ρ => bnd (ev a ρ) fun x => lft ((intR x).bind fun n => if n ≤ sizeLine ∧ -(2 ^ 62) ≤ n then .ok (rangeD 0 n.toNat) else .bad)
  | .range2 a b, ρ => bnd (ev a ρ) fun x => bnd (ev b ρ) fun y => lft ((intR x).bind fun lo => (intR y).bind fun hi =>
      if -(2 ^ 62) ≤ lo ∧ lo < 2 ^ 62 ∧ -(2 ^ 62) ≤ hi ∧ hi < 2 ^ 62 ∧ (hi - lo).toNat ≤ sizeLine then .ok (rangeD lo (hi - lo).toNat) else .bad)
  | .zip a b, ρ => bnd (ev a ρ) fun x => bnd (ev b ρ) fun y => lft (zipD x y)
  | .enum a, ρ => bnd (ev a ρ) fun x => lft (enumD x)
  | .sign a, ρ => bnd (ev a ρ) fun x => lft (signD x)
  | .range3 a b c, ρ => bnd (ev a ρ) fun x => bnd (ev b ρ) fun y => bnd (ev c ρ) fun z => lft ((intR x).bind fun i => (intR y).bind fun j => (intR z).bind fun k => range3D i j k)
  | .rev a, ρ => bnd (ev a ρ) fun x => lft ((itemsR x).bind fun xs => .ok xs.reverse)
end

/-! ### statements -/
mutual
inductive St (S : Type) : Type where
  | set (i : Nat) (own im : Bool) (e : E S)
  | asg (is : List Nat) (im : Bool) (e : E S)
  | par (is : List Nat) (ks : List Bool) (im : Bool) (es : Es S)
  | app (i : Nat) (im : Bool) (e : E S)
  | setItem (i : Nat) (im : Bool) (ix e : E S)
  | aug (i : Nat) (op : Operator) (e : E S)
  | expr (e : E S)
  | ret (e : E S) | retN
  | ite (c : E S) (a b : Sts S)
  | for_ (li : List Nat) (tg : Tg) (it : It S) (body : Sts S)
  | while_ (li : List Nat) (n : Nat) (c : E S) (body : Sts S)
  | brk | cnt | pass
  | raise_ (x : Str)
inductive Sts (S : Type) : Type where
  | nil
  | cons (a : St S) (r : Sts S)
end
/-- how a statement ends -/
inductive Fl where
  | nx (ρ : Env) | ret (d : PyData) | brk (ρ : Env) | cnt (ρ : Env)
def imm : PyData → Bool
  | .list _ => false
  | .dict _ => false
  | .tuple ds => go ds
  | _ => true
where go : List PyData → Bool
  | [] => true
  | d :: ds => imm d && go ds
/-- .. what is within -/
def immI : PyData → Bool
  | .list ds => imm.go ds
  | .dict kvs => imm.go (kvs.map (·.2))
  | d => imm d
/-- may what is there be kept apart? -/
def immK (own : Bool) (d : PyData) : Bool := if own then immI d else imm d
def immKs : List Bool → List PyData → Bool
  | _, [] => true
  | [], d :: ds => imm d && immKs [] ds
  | k :: ks, d :: ds => immK k d && immKs ks ds
def setItemD : PyData → PyData → PyData → R PyData
  | .list xs, .int k, d => match L2.ixN xs.length k with
    | some j => .ok (.list (xs.set j d))
    | none => .bad
  | .dict kvs, k, d => if kindOk kvs k = true ∧ kvs.length < sizeLine then .ok (.dict (putD kvs k d)) else .bad
  | _, _, _ => .bad
def appD : PyData → PyData → R PyData
  | .list xs, d => if xs.length < sizeLine then .ok (.list (xs ++ [d])) else .bad
  | _, _ => .bad
def getL (ρ : Env) (i : Nat) : R (List PyData) := match ρ[i]? with
  | some (some (.list xs)) => .ok xs
  | _ => .bad
def augD : Operator → PyData → PyData → R PyData
  | .Add, .int i, .int j => .ok (.int (i + j))
  | .Add, .str a, .str b => if a.length + b.length ≤ sizeLine then .ok (.str (a ++ b)) else .bad
  | .Sub, .int i, .int j => .ok (.int (i - j))
  | .Mult, .int i, .int j => if small i || small j then .ok (.int (i * j)) else .bad
  | .FloorDiv, .int i, .int j => if 0 < j ∧ j < 1073741824 then .ok (.int (i / j)) else .bad
  | .Mod, .int i, .int j => if 0 < j then .ok (.int (i % j)) else .bad
  | _, _, _ => .bad
def forGo {S : Type} (f : PyData → Env → M S Fl) : List PyData → Env → M S Fl
  | [], ρ => ret (.nx ρ)
  | x :: xs, ρ => bnd (f x ρ) fun fl => match fl with
    | .nx ρ' => forGo f xs ρ'
    | .cnt ρ' => forGo f xs ρ'
    | .brk ρ' => ret (.nx ρ')
    | .ret d => ret (.ret d)
def whileGo {S : Type} (c : Env → M S PyData) (f : Env → M S Fl) : Nat → Env → M S Fl
  | 0, _ => lft .bad
  | n + 1, ρ => bnd (c ρ) fun t => if truthy t = true then bnd (f ρ) fun fl => (match fl with
    | .nx ρ' => whileGo c f n ρ'
    | .cnt ρ' => whileGo c f n ρ'
    | .brk ρ' => ret (.nx ρ')
    | .ret d => ret (.ret d)) else ret (.nx ρ)
mutual
def run {S : Type} : St S → Env → M S Fl
  | .set i own im e, ρ => bnd (ev e ρ) fun d => if im = false ∨ immK own d = true then ret (.nx (ρ.set i (some d))) else lft .bad
  | .asg is im e, ρ => bnd (ev e ρ) fun d => if im = false ∨ imm d = true then bnd (lft (asg (.tup is) d ρ)) fun ρ' => ret (.nx ρ') else lft .bad
  | .par is ks im es, ρ => bnd (evs es ρ) fun ds => if ds.length = is.length ∧ (im = false ∨ immKs ks ds = true) then ret (.nx (setAll is ds ρ)) else lft .bad
  | .app i im e, ρ => bnd (lft (getL ρ i)) fun xs => bnd (ev e ρ) fun d => if (im = false ∨ imm d = true) ∧ xs.length < sizeLine then ret (.nx (ρ.set i (some (.list (xs ++ [d]))))) else lft .bad
  | .setItem i im ix e, ρ => bnd (ev e ρ) fun d => if im = false ∨ imm d = true then bnd (lft (getV ρ i)) fun x => bnd (ev ix ρ) fun k => bnd (lft (setItemD x k d)) fun y => ret (.nx (ρ.set i (some y))) else lft .bad
  | .aug i op e, ρ => bnd (lft (getV ρ i)) fun x => bnd (ev e ρ) fun d => bnd (lft (augD op x d)) fun y => ret (.nx (ρ.set i (some y)))
  | .expr e, ρ => bnd (ev e ρ) fun _ => ret (.nx ρ)
  | .ret e, ρ => bnd (ev e ρ) fun d => ret (.ret d)
  | .retN, _ => ret (.ret .none)
  | .ite c a b, ρ => bnd (ev c ρ) fun t => if truthy t = true then runs a ρ else runs b ρ
  | .for_ _ tg it body, ρ => bnd (evIt it ρ) fun xs => forGo (fun x ρ => bnd (lft (Mir.asg tg x ρ)) fun ρ' => runs body ρ') xs ρ
  | .while_ _ n c body, ρ => whileGo (fun ρ => ev c ρ) (fun ρ => runs body ρ) n ρ
  | .brk, ρ => ret (.brk ρ)
  | .cnt, ρ => ret (.cnt ρ)
  | .pass, ρ => ret (.nx ρ)
  | .raise_ x, _ => lft (.exc x [])
def runs {S : Type} : Sts S → Env → M S Fl
  | .nil, ρ => ret (.nx ρ)
  | .cons a r, ρ => bnd (run a ρ) fun fl => match fl with
    | .nx ρ' => runs r ρ'
    | .ret d => ret (.ret d)
    | .brk ρ' => ret (.brk ρ')
    | .cnt ρ' => ret (.cnt ρ')
end
/-- a def -/
def runDef {S : Type} (n : Nat) (body : Sts S) (args : List PyData) : M S PyData :=
  bnd (runs body (args.map some ++ List.replicate (n - args.length) none)) fun fl => match fl with
    | .ret d => ret d
    | .nx _ => ret .none
    | _ => lft .bad
end Mir

set_option Elab.async false
set_option linter.all false
set_option maxRecDepth 100000
set_option maxHeartbeats 4000000
/-! Mir, part B: how data stand in the abstract heap. -/
namespace Mir
open PySem PySem.Spec PyProof.Rows L2

def kD : Key → PyData
  | .inl i => .int i
  | .inr x => .str x
mutual
/-- v stands for d; none of its objects is in T -/
def Rep (T : Addr → Prop) (H : Hp) : PyData → V → Prop
  | .none, v => v = .non
  | .bool b, v => v = .bl b
  | .int i, v => v = .int i
  | .str x, v => v = .str x ∧ x.length ≤ sizeLine
  | .tuple ds, v => ∃ a xs, v = .ref a ∧ ¬ T a ∧ H a = some (.tup xs) ∧ xs.length ≤ sizeLine ∧ RepL T H ds xs
  | .list ds, v => ∃ a xs, v = .ref a ∧ ¬ T a ∧ H a = some (.lst xs) ∧ xs.length ≤ sizeLine ∧ RepL T H ds xs
  | .dict kvs, v => ∃ a, v = .ref a ∧ ¬ T a ∧ ((∃ ks, Rd H a (.dK ks) ∧ RepK T H kvs ks) ∨ ∃ ks, Rd H a (.dT ks) ∧ RepT T H kvs ks)
def RepL (T : Addr → Prop) (H : Hp) : List PyData → List V → Prop
  | [], xs => xs = []
  | d :: ds, xs => ∃ x r, xs = x :: r ∧ Rep T H d x ∧ RepL T H ds r
def RepK (T : Addr → Prop) (H : Hp) : List (PyData × PyData) → List (Key × V) → Prop
  | [], ks => ks = []
  | (k, d) :: r, ks => ∃ kk x t, ks = (kk, x) :: t ∧ k = kD kk ∧ Rep T H d x ∧ RepK T H r t
def RepT (T : Addr → Prop) (H : Hp) : List (PyData × PyData) → List (List Key × V) → Prop
  | [], ks => ks = []
  | (k, d) :: r, ks => ∃ kk x t, ks = (kk, x) :: t ∧ k = .tuple (kk.map kD) ∧ Rep T H d x ∧ RepT T H r t
end

/-- what is tracked in H outside T stands in H' -/
def Ext (T : Addr → Prop) (H H' : Hp) : Prop := ∀ a o, ¬ T a → H a = some o → H' a = some o
theorem Ext.refl {T : Addr → Prop} {H : Hp} : Ext T H H := fun _ _ _ h => h
theorem Ext.trans {T : Addr → Prop} {H H1 H2 : Hp} (a : Ext T H H1) (b : Ext T H1 H2) : Ext T H H2 := fun c o n h => b c o n (a c o n h)
theorem Ext.mono {T T' : Addr → Prop} {H H' : Hp} (e : Ext T H H') (h : ∀ a, T a → T' a) : Ext T' H H' := fun a o n q => e a o (fun t => n (h a t)) q
theorem Ext.laid {T : Addr → Prop} {H : Hp} {p : Addr} {o : HO} (h : H p = none) : Ext T H (upd H p o) := fun a q _ e => by rw [upd_ne (ne_of_none e h)]; exact e
theorem Ext.wr {T : Addr → Prop} {H : Hp} {p : Addr} {o : HO} (h : T p) : Ext T H (upd H p o) := fun a q n e => by rw [upd_ne (fun z => n (by rw [z]; exact h))]; exact e

section
variable {T T' : Addr → Prop} {H H' : Hp}
/-- the change of place: what the new T is at, and what of the heap is kept -/
structure Mv (T T' : Addr → Prop) (H H' : Hp) : Prop where
  t : ∀ a o, ¬ T a → H a = some o → ¬ T' a
  h : ∀ a o, ¬ T a → H a = some o → H' a = some o
theorem Mv.of_ext (e : Ext T H H') : Mv T T H H' := ⟨fun _ _ n _ => n, e⟩
theorem Mv.less (h : ∀ a, T' a → T a) : Mv T T' H H := ⟨fun a _ n _ t => n (h a t), fun _ _ _ e => e⟩
theorem Mv.rd (m : Mv T T' H H') {a : Addr} {u : HO} (n : ¬ T a) (r : Rd H a u) : Rd H' a u ∧ ¬ T' a := by
  rcases r with r | ⟨o, r⟩
  · exact ⟨.inl (m.h a _ n r), m.t a _ n r⟩
  · exact ⟨.inr ⟨o, m.h a _ n r⟩, m.t a _ n r⟩
mutual
theorem Rep.mv (m : Mv T T' H H') : ∀ (d : PyData) (v : V), Rep T H d v → Rep T' H' d v
  | .none, _, h => by simpa [Rep] using h
  | .bool b, _, h => by simpa [Rep] using h
  | .int i, _, h => by simpa [Rep] using h
  | .str x, _, h => by simpa [Rep] using h
  | .tuple ds, v, h => by
    obtain ⟨a, xs, e, n, q, z, r⟩ := by simpa only [Rep] using h
    simp only [Rep]
    exact ⟨a, xs, e, m.t a _ n q, m.h a _ n q, z, RepL.mv m ds xs r⟩
  | .list ds, v, h => by
    obtain ⟨a, xs, e, n, q, z, r⟩ := by simpa only [Rep] using h
    simp only [Rep]
    exact ⟨a, xs, e, m.t a _ n q, m.h a _ n q, z, RepL.mv m ds xs r⟩
  | .dict kvs, v, h => by
    obtain ⟨a, e, n, q⟩ := by simpa only [Rep] using h
    simp only [Rep]
    rcases q with ⟨ks, q, r⟩ | ⟨ks, q, r⟩
    · exact ⟨a, e, (m.rd n q).2, .inl ⟨ks, (m.rd n q).1, RepK.mv m kvs ks r⟩⟩
    · exact ⟨a, e, (m.rd n q).2, .inr ⟨ks, (m.rd n q).1, RepT.mv m kvs ks r⟩⟩
theorem RepL.mv (m : Mv T T' H H') : ∀ (ds : List PyData) (xs : List V), RepL T H ds xs → RepL T' H' ds xs
  | [], _, h => by simpa [RepL] using h
  | d :: ds, xs, h => by
    obtain ⟨x, r, e, h1, h2⟩ := by simpa only [RepL] using h
    simp only [RepL]
    exact ⟨x, r, e, Rep.mv m d x h1, RepL.mv m ds r h2⟩
theorem RepK.mv (m : Mv T T' H H') : ∀ (ds : List (PyData × PyData)) (xs : List (Key × V)), RepK T H ds xs → RepK T' H' ds xs
  | [], _, h => by simpa [RepK] using h
  | (k, d) :: ds, xs, h => by
    obtain ⟨kk, x, r, e, e2, h1, h2⟩ := by simpa only [RepK] using h
    simp only [RepK]
    exact ⟨kk, x, r, e, e2, Rep.mv m d x h1, RepK.mv m ds r h2⟩
theorem RepT.mv (m : Mv T T' H H') : ∀ (ds : List (PyData × PyData)) (xs : List (List Key × V)), RepT T H ds xs → RepT T' H' ds xs
  | [], _, h => by simpa [RepT] using h
  | (k, d) :: ds, xs, h => by
    obtain ⟨kk, x, r, e, e2, h1, h2⟩ := by simpa only [RepT] using h
    simp only [RepT]
    exact ⟨kk, x, r, e, e2, Rep.mv m d x h1, RepT.mv m ds r h2⟩
end
theorem Rep.ext {d : PyData} {v : V} (r : Rep T H d v) (e : Ext T H H') : Rep T H' d v := Rep.mv (.of_ext e) d v r
theorem RepL.ext {d : List PyData} {v : List V} (r : RepL T H d v) (e : Ext T H H') : RepL T H' d v := RepL.mv (.of_ext e) d v r
theorem Rep.less {d : PyData} {v : V} (r : Rep T H d v) (h : ∀ a, T' a → T a) : Rep T' H d v := Rep.mv (.less h) d v r
theorem RepL.less {d : List PyData} {v : List V} (r : RepL T H d v) (h : ∀ a, T' a → T a) : RepL T' H d v := RepL.mv (.less h) d v r

theorem RepL.length : ∀ {ds : List PyData} {xs : List V}, RepL T H ds xs → ds.length = xs.length
  | [], xs, h => by
    have e : xs = [] := by simpa [RepL] using h
    subst e; rfl
  | d :: ds, xs, h => by
    obtain ⟨x, r, e, h1, h2⟩ := by simpa only [RepL] using h
    subst e
    simp [RepL.length h2]
theorem RepL.cons {d : PyData} {ds : List PyData} {x : V} {xs : List V} (h1 : Rep T H d x) (h2 : RepL T H ds xs) : RepL T H (d :: ds) (x :: xs) := by
  simp only [RepL]; exact ⟨x, xs, rfl, h1, h2⟩
theorem RepL.nil : RepL T H [] [] := by simp [RepL]
theorem RepL.nil_inv {xs : List V} (h : RepL T H [] xs) : xs = [] := by simpa [RepL] using h
theorem RepL.cons_inv {d : PyData} {ds : List PyData} {xs : List V} (h : RepL T H (d :: ds) xs) : ∃ x r, xs = x :: r ∧ Rep T H d x ∧ RepL T H ds r := by simpa only [RepL] using h
theorem RepL.append : ∀ {ds es : List PyData} {xs ys : List V}, RepL T H ds xs → RepL T H es ys → RepL T H (ds ++ es) (xs ++ ys)
  | [], _, _, _, h, q => by rw [h.nil_inv]; exact q
  | d :: ds, es, xs, ys, h, q => by
    obtain ⟨x, r, e, h1, h2⟩ := h.cons_inv
    subst e
    exact .cons h1 (h2.append q)
theorem RepL.get : ∀ {ds : List PyData} {xs : List V} {i : Nat} {d : PyData}, RepL T H ds xs → ds[i]? = some d → ∃ x, xs[i]? = some x ∧ Rep T H d x
  | [], _, _, _, _, e => by simp at e
  | d :: ds, xs, 0, d', h, e => by
    obtain ⟨x, r, rfl, h1, h2⟩ := h.cons_inv
    simp at e; subst e
    exact ⟨x, rfl, h1⟩
  | d :: ds, xs, i + 1, d', h, e => by
    obtain ⟨x, r, rfl, h1, h2⟩ := h.cons_inv
    obtain ⟨y, e1, e2⟩ := RepL.get (i := i) h2 (by simpa using e)
    exact ⟨y, by simpa using e1, e2⟩
theorem RepL.drop : ∀ {ds : List PyData} {xs : List V} (n : Nat), RepL T H ds xs → RepL T H (ds.drop n) (xs.drop n)
  | _, _, 0, h => h
  | [], _, _ + 1, h => by rw [h.nil_inv]; exact .nil
  | d :: ds, xs, n + 1, h => by
    obtain ⟨x, r, rfl, h1, h2⟩ := h.cons_inv
    exact h2.drop n
theorem RepL.take : ∀ {ds : List PyData} {xs : List V} (n : Nat), RepL T H ds xs → RepL T H (ds.take n) (xs.take n)
  | _, _, 0, h => .nil
  | [], _, _ + 1, h => by rw [h.nil_inv]; exact .nil
  | d :: ds, xs, n + 1, h => by
    obtain ⟨x, r, rfl, h1, h2⟩ := h.cons_inv
    exact .cons h1 (h2.take n)
theorem RepL.set {d : PyData} {x : V} (q : Rep T H d x) : ∀ {ds : List PyData} {xs : List V} (n : Nat), RepL T H ds xs → RepL T H (ds.set n d) (xs.set n x)
  | [], _, _, h => by rw [h.nil_inv]; exact .nil
  | e :: ds, xs, 0, h => by
    obtain ⟨y, r, rfl, h1, h2⟩ := h.cons_inv
    exact .cons q h2
  | e :: ds, xs, n + 1, h => by
    obtain ⟨y, r, rfl, h1, h2⟩ := h.cons_inv
    exact .cons h1 (RepL.set q n h2)
theorem RepL.rep {ds : List PyData} {xs : List V} (h : RepL T H ds xs) : ∀ n : Nat, RepL T H (List.replicate n ds).flatten (List.replicate n xs).flatten
  | 0 => .nil
  | n + 1 => by
    rw [List.replicate_succ, List.replicate_succ, List.flatten_cons, List.flatten_cons]
    exact h.append (RepL.rep h n)
theorem RepL.atI {ds : List PyData} {xs : List V} {i : Int} {d : PyData} (h : RepL T H ds xs) (e : L2.atI ds i = some d) : ∃ x, L2.atI xs i = some x ∧ Rep T H d x := by
  unfold L2.atI at e ⊢
  rw [h.length] at e
  cases q : ixN xs.length i with
  | none => rw [q] at e; cases e
  | some j =>
    rw [q] at e
    exact h.get e
theorem RepL.cut {ds : List PyData} {xs : List V} (h : RepL T H ds xs) (lo hi : Option Int) : RepL T H (cutD ds lo hi) (cutV xs lo hi) := by
  unfold cutD cutV
  rw [h.length]
  exact (h.drop _).take _
/-- no object within: T does not matter -/
theorem Rep.nodup {d : PyData} {v : V} (h : Rep T H d v) : True := trivial

theorem Rep.mkInt {i : Int} : Rep T H (.int i) (.int i) := by simp [Rep]
theorem Rep.mkBool {b : Bool} : Rep T H (.bool b) (.bl b) := by simp [Rep]
theorem Rep.mkNone : Rep T H .none .non := by simp [Rep]
theorem Rep.mkStr {x : Str} (h : x.length ≤ sizeLine) : Rep T H (.str x) (.str x) := by simp [Rep, h]
theorem Rep.int_inv {i : Int} {v : V} (h : Rep T H (.int i) v) : v = .int i := by simpa [Rep] using h
theorem Rep.bool_inv {i : Bool} {v : V} (h : Rep T H (.bool i) v) : v = .bl i := by simpa [Rep] using h
theorem Rep.none_inv {v : V} (h : Rep T H .none v) : v = .non := by simpa [Rep] using h
theorem Rep.str_inv {x : Str} {v : V} (h : Rep T H (.str x) v) : v = .str x ∧ x.length ≤ sizeLine := by simpa [Rep] using h
theorem Rep.list_inv {ds : List PyData} {v : V} (h : Rep T H (.list ds) v) : ∃ a xs, v = .ref a ∧ ¬ T a ∧ H a = some (.lst xs) ∧ xs.length ≤ sizeLine ∧ RepL T H ds xs := by simpa only [Rep] using h
theorem Rep.tuple_inv {ds : List PyData} {v : V} (h : Rep T H (.tuple ds) v) : ∃ a xs, v = .ref a ∧ ¬ T a ∧ H a = some (.tup xs) ∧ xs.length ≤ sizeLine ∧ RepL T H ds xs := by simpa only [Rep] using h
theorem Rep.mkList {ds : List PyData} {a : Addr} {xs : List V} (n : ¬ T a) (h : H a = some (.lst xs)) (z : xs.length ≤ sizeLine) (r : RepL T H ds xs) : Rep T H (.list ds) (.ref a) := by
  simp only [Rep]; exact ⟨a, xs, rfl, n, h, z, r⟩
theorem Rep.mkTuple {ds : List PyData} {a : Addr} {xs : List V} (n : ¬ T a) (h : H a = some (.tup xs)) (z : xs.length ≤ sizeLine) (r : RepL T H ds xs) : Rep T H (.tuple ds) (.ref a) := by
  simp only [Rep]; exact ⟨a, xs, rfl, n, h, z, r⟩
end

/-! ### immutable data: no T matters -/
section
variable {T T' : Addr → Prop} {H : Hp}
/-- T' has no tuple -/
def NoTup (T' : Addr → Prop) (H : Hp) : Prop := ∀ a xs, H a = some (.tup xs) → ¬ T' a
mutual
theorem Rep.imm (n : NoTup T' H) : ∀ (d : PyData) (v : V), imm d = true → Rep T H d v → Rep T' H d v
  | .none, _, _, h => by simpa [Rep] using h
  | .bool b, _, _, h => by simpa [Rep] using h
  | .int i, _, _, h => by simpa [Rep] using h
  | .str x, _, _, h => by simpa [Rep] using h
  | .tuple ds, v, i, h => by
    obtain ⟨a, xs, e, _, q, z, r⟩ := by simpa only [Rep] using h
    simp only [Rep]
    exact ⟨a, xs, e, n a _ q, q, z, RepL.imm n ds xs (by simpa [Mir.imm] using i) r⟩
  | .list ds, v, i, h => by simp [Mir.imm] at i
  | .dict kvs, v, i, h => by simp [Mir.imm] at i
theorem RepL.imm (n : NoTup T' H) : ∀ (ds : List PyData) (xs : List V), Mir.imm.go ds = true → RepL T H ds xs → RepL T' H ds xs
  | [], _, _, h => by simpa [RepL] using h
  | d :: ds, xs, i, h => by
    obtain ⟨x, r, e, h1, h2⟩ := by simpa only [RepL] using h
    rw [Mir.imm.go, Bool.and_eq_true] at i
    simp only [RepL]
    exact ⟨x, r, e, Rep.imm n d x i.1 h1, RepL.imm n ds r i.2 h2⟩
end
end

/-! ### reading in the model's heap -/
section
variable {X : Cx} {pins : List (Addr × Obj)} {σ : L2.St} {H : Hp} {s : Shared} {T : Addr → Prop}
mutual
theorem Rep.reads (I : Inv X pins σ H s) : ∀ (d : PyData) (v : V) (u : Value), d.plain = true → Rep T H d v → RelV v u → ∃ as, Reads s.heap u d as
  | .none, _, u, _, h, r => by rw [h.none_inv] at r; cases r; exact ⟨_, .none⟩
  | .bool b, _, u, _, h, r => by rw [h.bool_inv] at r; cases r; exact ⟨_, .bool b⟩
  | .int i, _, u, _, h, r => by rw [h.int_inv] at r; obtain ⟨t, rfl⟩ := r; exact ⟨_, .int i t⟩
  | .str x, _, u, _, h, r => by rw [h.str_inv.1] at r; obtain ⟨t, rfl⟩ := r; exact ⟨_, .str x t⟩
  | .tuple ds, v, u, p, h, r => by
    obtain ⟨a, xs, e, _, q, z, hr⟩ := h.tuple_inv
    subst e
    cases r
    obtain ⟨its, rv, ⟨o, ho, hc, n, hd⟩, _⟩ := I.tuple (.of q)
    obtain ⟨as, q⟩ := RepL.reads I ds xs its (by simpa [PyData.plain] using p) hr rv
    exact ⟨_, .tuple ho hc hd (by simpa using q)⟩
  | .list ds, v, u, p, h, r => by
    obtain ⟨a, xs, e, _, q, z, hr⟩ := h.list_inv
    subst e
    cases r
    obtain ⟨its, rv, ⟨o, n, ho, hc, _, hd⟩, _⟩ := I.list (.of q)
    obtain ⟨as, q⟩ := RepL.reads I ds xs its (by simpa [PyData.plain] using p) hr rv
    exact ⟨_, .list ho hc hd (by simpa using q)⟩
  | .dict kvs, v, u, p, h, r => by simp [PyData.plain] at p
theorem RepL.reads (I : Inv X pins σ H s) : ∀ (ds : List PyData) (xs : List V) (us : List Value), PyData.plainAll ds = true → RepL T H ds xs → Vals xs us → ∃ as, ReadsAll s.heap us ds as
  | [], _, us, _, h, r => by rw [h.nil_inv] at r; cases r; exact ⟨_, .nil⟩
  | d :: ds, xs, us, p, h, r => by
    obtain ⟨x, t, rfl, h1, h2⟩ := h.cons_inv
    cases r with
    | cons r1 r2 =>
      simp only [PyData.plainAll, Bool.and_eq_true] at p
      obtain ⟨as, q1⟩ := Rep.reads I d _ _ p.1 h1 r1
      obtain ⟨bs, q2⟩ := RepL.reads I ds _ _ p.2 h2 r2
      exact ⟨_, .cons q1 q2⟩
end
end
end Mir

set_option Elab.async false
set_option linter.all false
set_option maxRecDepth 100000
set_option maxHeartbeats 4000000
/-! Mir, part C: what it is for an expression of the language to be one of the model's. -/
namespace Mir
open PySem PySem.Spec PyProof.Rows L2

/-- a state beside the data: where it stands -/
structure SK (S : Type) where
  rel : S → Hp → Prop
  loc : Addr → Prop
  slot : Option (Nat × Addr)
  keep : ∀ s H H', rel s H → (∀ a, loc a → H' a = H a) → rel s H'
  there : ∀ s H a, rel s H → loc a → ∃ xs, H a = some (.lst xs)

def wE (X : Cx) (e : Expr) : TE := fun σ H Q => ∀ (pins : List (Addr × Obj)) (s : Shared), Inv X pins σ H s → wpAny (model X.prog X.w) X.A (eval e X.env) (EP X pins σ Q) X.xe s
def wT (X : Cx) (e : Expr) : TT := fun σ H Q => ∀ (pins : List (Addr × Obj)) (s : Shared), Inv X pins σ H s → wpAny (model X.prog X.w) X.A (isTrue e X.env (eval e X.env)) (TP X pins σ Q) X.xe s
def wW (X : Cx) (e : Expr) : TT := fun σ H Q => ∀ (whole : Sem Value) (pins : List (Addr × Obj)) (s : Shared), Inv X pins σ H s → wpAny (model X.prog X.w) X.A (isTrue e X.env whole) (TP X pins σ Q) X.xe s
def wA (X : Cx) (es : List Expr) : TA := fun σ H Q => ∀ (pos : Pos) (pins : List (Addr × Obj)) (s : Shared), Inv X pins σ H s → wpAny (model X.prog X.w) X.A (spliced (backTo pos (starEach es X.env))) (AP X pins σ Q) X.xe s
section
variable {X : Cx} {e : Expr} {es : List Expr} {σ : L2.St} {H : Hp}
theorem pe_w : PE X e (wE X e) := ⟨fun pins s _ _ _ I h => h pins s I⟩
theorem pt_w : PT X e (wT X e) := ⟨fun pins s _ _ _ I h => h pins s I⟩
theorem pw_w : PW X e (wW X e) := ⟨fun wh pins s _ _ _ I h => h wh pins s I⟩
theorem pa_w : PA X es (wA X es) := ⟨fun pos pins s _ _ _ I h => h pos pins s I⟩
theorem _root_.L2.PE.w {t : TE} {Q : VK} (h : PE X e t) (q : t σ H Q) : wE X e σ H Q := fun pins s I => h.run pins s σ H Q I q
theorem _root_.L2.PT.w {t : TT} {Q : Bool → Hp → Prop} (h : PT X e t) (q : t σ H Q) : wT X e σ H Q := fun pins s I => h.run pins s σ H Q I q
theorem _root_.L2.PW.w {t : TT} {Q : Bool → Hp → Prop} (h : PW X e t) (q : t σ H Q) : wW X e σ H Q := fun wh pins s I => h.run wh pins s σ H Q I q
theorem _root_.L2.PA.w {t : TA} {Q : List V → Hp → Prop} (h : PA X es t) (q : t σ H Q) : wA X es σ H Q := fun pos pins s I => h.run pos pins s σ H Q I q
theorem wE.mono {Q Q' : VK} (h : wE X e σ H Q) (q : ∀ v H', Q v H' → Q' v H') : wE X e σ H Q' := fun pins s I => thn (h pins s I) fun _ _ ⟨v, H', I', r, z⟩ => ⟨v, H', I', r, q v H' z⟩
theorem wT.mono {Q Q' : Bool → Hp → Prop} (h : wT X e σ H Q) (q : ∀ v H', Q v H' → Q' v H') : wT X e σ H Q' := fun pins s I => thn (h pins s I) fun _ _ ⟨H', I', z⟩ => ⟨H', I', q _ H' z⟩
theorem wA.mono {Q Q' : List V → Hp → Prop} (h : wA X es σ H Q) (q : ∀ v H', Q v H' → Q' v H') : wA X es σ H Q' := fun pos pins s I => thn (h pos pins s I) fun _ _ ⟨v, H', I', r, z⟩ => ⟨v, H', I', r, q v H' z⟩
/-- at a state one may look at it -/
theorem wE.at {Q : VK} (h : ∀ pins s, Inv X pins σ H s → wE X e σ H Q) : wE X e σ H Q := fun pins s I => h pins s I pins s I
end

/-- at a stands d, whose items are met outside T alone -/
def Own1 (T : Addr → Prop) (H : Hp) : PyData → Addr → Prop
  | .list ds, a => ∃ xs, H a = some (.lst xs) ∧ xs.length ≤ sizeLine ∧ RepL T H ds xs
  | .dict kvs, a => (∃ ks, H a = some (.dK ks) ∧ RepK T H kvs ks) ∨ ∃ ks, H a = some (.dT ks) ∧ RepT T H kvs ks
  | _, _ => False
theorem Own1.mv {T T' : Addr → Prop} {H H' : Hp} (m : Mv T T' H H') : ∀ {d : PyData} {a : Addr}, Own1 T H d a → (∀ o, H a = some o → H' a = some o) → Own1 T' H' d a
  | .list ds, a, ⟨xs, h, z, r⟩, k => ⟨xs, k _ h, z, RepL.mv m _ _ r⟩
  | .dict kvs, a, .inl ⟨ks, h, r⟩, k => .inl ⟨ks, k _ h, RepK.mv m _ _ r⟩
  | .dict kvs, a, .inr ⟨ks, h, r⟩, k => .inr ⟨ks, k _ h, RepT.mv m _ _ r⟩
theorem Own1.rep {T T' : Addr → Prop} {H : Hp} (h : ∀ a, T' a → T a) : ∀ {d : PyData} {a : Addr}, Own1 T H d a → ¬ T' a → Rep T' H d (.ref a)
  | .list ds, a, ⟨xs, e, z, r⟩, n => .mkList n e z (r.less h)
  | .dict kvs, a, o, n => by
    simp only [Rep]
    rcases o with ⟨ks, e, r⟩ | ⟨ks, e, r⟩
    · exact ⟨a, rfl, n, .inl ⟨ks, .inl e, RepK.mv (.less h) _ _ r⟩⟩
    · exact ⟨a, rfl, n, .inr ⟨ks, .inl e, RepT.mv (.less h) _ _ r⟩⟩
theorem Own1.there {T : Addr → Prop} {H : Hp} : ∀ {d : PyData} {a : Addr}, Own1 T H d a → ∃ o, H a = some o ∧ Mut (some o)
  | .list ds, a, ⟨xs, e, z, r⟩ => ⟨_, e, trivial⟩
  | .dict kvs, a, .inl ⟨ks, e, r⟩ => ⟨_, e, trivial⟩
  | .dict kvs, a, .inr ⟨ks, e, r⟩ => ⟨_, e, trivial⟩
/-- an exception that lies: its class is the name's -/
def XcIs (mg : Str → Option Value) (x : Str) (l : List PyData) (cls : Value) (dx : Option Addr) (H : Hp) : Prop := mg x = some cls ∧ l = [] ∧ dx = none

section
variable {S : Type}
def PostE (X : Cx) (k : SK S) (T : Addr → Prop) (σ : L2.St) (H : Hp) (r : R (PyData × S)) (Q : VK) (W : WX) : Prop := match r with
  | .ok (d, st) => ∀ v H', Rep T H' d v → Ext k.loc H H' → k.rel st H' → Q v H'
  | .exc x l => ∀ cls dx H', XcIs X.mg x l cls dx H' → Ext k.loc H H' → W cls dx σ H'
  | .bad => False
def PostA (X : Cx) (k : SK S) (T : Addr → Prop) (σ : L2.St) (H : Hp) (r : R (List PyData × S)) (Q : List V → Hp → Prop) (W : WX) : Prop := match r with
  | .ok (d, st) => ∀ v H', RepL T H' d v → Ext k.loc H H' → k.rel st H' → Q v H'
  | .exc x l => ∀ cls dx H', XcIs X.mg x l cls dx H' → Ext k.loc H H' → W cls dx σ H'
  | .bad => False
def PostF (X : Cx) (k : SK S) (T : Addr → Prop) (σ : L2.St) (H : Hp) (r : R (PyData × S)) (Q : VK) (W : WX) : Prop := match r with
  | .ok (d, st) => ∀ a H', H a = none → ¬ T a → Own1 (fun b => T b ∨ b = a) H' d a → Ext k.loc H H' → k.rel st H' → Q (.ref a) H'
  | .exc x l => ∀ cls dx H', XcIs X.mg x l cls dx H' → Ext k.loc H H' → W cls dx σ H'
  | .bad => False
theorem PostE.f {X : Cx} {k : SK S} {T : Addr → Prop} {σ : L2.St} {H : Hp} {r : R (PyData × S)} {Q : VK} {W : WX} (h : PostE X k T σ H r Q W) : PostF X k T σ H r Q W := by
  unfold PostE at h
  unfold PostF
  match r, h with
  | .ok (d, st), h => exact fun a H' ha hT q e rel => h _ H' (q.rep (fun b => .inl) hT) e rel
  | .exc x l, h => exact h
  | .bad, h => exact h
theorem PostE.from {X : Cx} {k : SK S} {T : Addr → Prop} {σ : L2.St} {H H1 : Hp} {r : R (PyData × S)} {Q : VK} {W : WX} (e : Ext k.loc H H1) (h : PostE X k T σ H r Q W) : PostE X k T σ H1 r Q W := by
  unfold PostE at h ⊢
  match r, h with
  | .ok (d, st), h => exact fun v H' a b c => h v H' a (e.trans b) c
  | .exc x l, h => exact fun v dx H' a b => h v dx H' a (e.trans b)
  | .bad, h => exact h
theorem PostA.from {X : Cx} {k : SK S} {T : Addr → Prop} {σ : L2.St} {H H1 : Hp} {r : R (List PyData × S)} {Q : List V → Hp → Prop} {W : WX} (e : Ext k.loc H H1) (h : PostA X k T σ H r Q W) : PostA X k T σ H1 r Q W := by
  unfold PostA at h ⊢
  match r, h with
  | .ok (d, st), h => exact fun v H' a b c => h v H' a (e.trans b) c
  | .exc x l, h => exact fun v dx H' a b => h v dx H' a (e.trans b)
  | .bad, h => exact h

/-- the slots at L -/
structure EnvR (X : Cx) (k : SK S) (T : Addr → Prop) (L : List Nat) (ρ : Env) (σ : L2.St) (H : Hp) : Prop where
  v : ∀ i ∈ L, ∀ d, ρ[i]? = some (some d) → ∃ v, σ[i]? = some (some v) ∧ Rep T H d v
  ds : ∀ p, k.slot = some p → σ[p.1]? = some (some (.ref p.2))
  len : ρ.length ≤ σ.length
structure Ok (X : Cx) (k : SK S) (T : Addr → Prop) (st : S) (H : Hp) : Prop where
  dom : ∀ a, T a → ∃ o, H a = some o ∧ Mut (some o)
  loc : ∀ a, k.loc a → T a
  rel : k.rel st H
theorem Ok.none {X : Cx} {k : SK S} {T : Addr → Prop} {st : S} {H : Hp} (o : Ok X k T st H) {p : Addr} (h : H p = .none) : ¬ T p := fun t => by
  obtain ⟨u, e, _⟩ := o.dom p t
  rw [h] at e; cases e
theorem Ok.notup {X : Cx} {k : SK S} {T : Addr → Prop} {st : S} {H : Hp} (o : Ok X k T st H) : NoTup T H := fun a xs e t => by
  obtain ⟨u, e', m⟩ := o.dom a t
  rw [e] at e'; cases e'; exact m
theorem Ok.next {X : Cx} {k : SK S} {T : Addr → Prop} {st st' : S} {H H' : Hp} (o : Ok X k T st H) (e : Ext k.loc H H') (r : k.rel st' H') : Ok X k T st' H' := by
  refine ⟨fun a t => ?_, o.loc, r⟩
  by_cases h : k.loc a
  · obtain ⟨xs, q⟩ := k.there _ _ a r h
    exact ⟨_, q, trivial⟩
  · obtain ⟨u, q, m⟩ := o.dom a t
    exact ⟨u, e a u h q, m⟩
theorem Ok.extT {X : Cx} {k : SK S} {T : Addr → Prop} {st : S} {H H' : Hp} (o : Ok X k T st H) (e : Ext k.loc H H') : Ext T H H' := e.mono o.loc
theorem EnvR.next {X : Cx} {k : SK S} {T : Addr → Prop} {L : List Nat} {ρ : Env} {σ : L2.St} {H H' : Hp} (n : EnvR X k T L ρ σ H) (e : Ext T H H') : EnvR X k T L ρ σ H' :=
  ⟨fun i hi d h => let ⟨v, a, b⟩ := n.v i hi d h; ⟨v, a, b.ext e⟩, n.ds, n.len⟩
theorem EnvR.sub {X : Cx} {k : SK S} {T : Addr → Prop} {L L' : List Nat} {ρ : Env} {σ : L2.St} {H : Hp} (n : EnvR X k T L ρ σ H) (h : ∀ i ∈ L', i ∈ L) : EnvR X k T L' ρ σ H :=
  ⟨fun i hi => n.v i (h i hi), n.ds, n.len⟩

mutual
def fv {S : Type} : E S → List Nat
  | .v i => [i]
  | .bin _ a b => fv a ++ fv b
  | .neg a => fv a
  | .not_ a => fv a
  | .and_ a b => fv a ++ fv b
  | .or_ a b => fv a ++ fv b
  | .one a => fv a
  | .cmp _ a b => fv a ++ fv b
  | .chain _ _ a b c => fv a ++ (fv b ++ fv c)
  | .ite c a b => fv c ++ (fv a ++ fv b)
  | .tup es => fvs es
  | .lst es => fvs es
  | .sub a i => fv a ++ fv i
  | .sl a lo hi => fv a ++ (fv lo ++ fv hi)
  | .slL a lo => fv a ++ fv lo
  | .slH a hi => fv a ++ fv hi
  | .call _ _ es => fvs es
  | .callS _ _ es => fvs es
  | .blt _ es => fvs es
  | .isa _ a => fv a
  | .op1 _ a => fv a
  | .subG _ _ i => fv i
  | .op2 _ a b => fv a ++ fv b
  | .op3 _ a b c => fv a ++ (fv b ++ fv c)
  | .lc elt _ it c _ => fvI it ++ (fv elt ++ fv c)
  | .pick _ i es => fv i ++ fvs es
  | .int _ => [] | .bl _ => [] | .non => [] | .str _ => [] | .glob _ _ => [] | .dict0 => []
def fvs {S : Type} : Es S → List Nat
  | .nil => []
  | .cons a r => fv a ++ fvs r
def fvI {S : Type} : It S → List Nat
  | .of a => fv a
  | .range1 a => fv a
  | .range2 a b => fv a ++ fv b
  | .zip a b => fv a ++ fv b
  | .enum a => fv a
  | .sign a => fv a
  | .range3 a b c => fv a ++ (fv b ++ fv c)
  | .rev a => fv a
end

/-- c is e -/
def SE (X : Cx) (k : SK S) (c : E S) (e : Expr) : Prop := ∀ (T : Addr → Prop) (ρ : Env) (st : S) (σ : L2.St) (H : Hp) (Q : VK) (W : WX),
  EnvR X k T (fv c) ρ σ H → Ok X k T st H → Takes X W → PostE X k T σ H (ev c ρ st) Q W → wE X e σ H Q
/-- .. as a test -/
def PostT (X : Cx) (k : SK S) (T : Addr → Prop) (σ : L2.St) (H : Hp) (r : R (PyData × S)) (Q : Bool → Hp → Prop) (W : WX) : Prop := match r with
  | .ok (d, st) => ∀ H', Ext k.loc H H' → k.rel st H' → Q (truthy d) H'
  | .exc x l => ∀ cls dx H', XcIs X.mg x l cls dx H' → Ext k.loc H H' → W cls dx σ H'
  | .bad => False
def ST (X : Cx) (k : SK S) (c : E S) (e : Expr) : Prop := ∀ (T : Addr → Prop) (ρ : Env) (st : S) (σ : L2.St) (H : Hp) (Q : Bool → Hp → Prop) (W : WX),
  EnvR X k T (fv c) ρ σ H → Ok X k T st H → Takes X W → PostT X k T σ H (ev c ρ st) Q W → wT X e σ H Q
def SW (X : Cx) (k : SK S) (c : E S) (e : Expr) : Prop := ∀ (T : Addr → Prop) (ρ : Env) (st : S) (σ : L2.St) (H : Hp) (Q : Bool → Hp → Prop) (W : WX),
  EnvR X k T (fv c) ρ σ H → Ok X k T st H → Takes X W → PostT X k T σ H (ev c ρ st) Q W → wW X e σ H Q
def SA (X : Cx) (k : SK S) (c : Es S) (es : List Expr) : Prop := ∀ (T : Addr → Prop) (ρ : Env) (st : S) (σ : L2.St) (H : Hp) (Q : List V → Hp → Prop) (W : WX),
  EnvR X k T (fvs c) ρ σ H → Ok X k T st H → Takes X W → PostA X k T σ H (evs c ρ st) Q W → wA X es σ H Q
theorem SW.t {X : Cx} {k : SK S} {c : E S} {e : Expr} (h : SW X k c e) : ST X k c e := fun T ρ st σ H Q W n o t p pins s I => h T ρ st σ H Q W n o t p _ pins s I

theorem PostT.from {X : Cx} {k : SK S} {T : Addr → Prop} {σ : L2.St} {H H1 : Hp} {r : R (PyData × S)} {Q : Bool → Hp → Prop} {W : WX} (e : Ext k.loc H H1) (h : PostT X k T σ H r Q W) : PostT X k T σ H1 r Q W := by
  unfold PostT at h ⊢
  match r, h with
  | .ok (d, st), h => exact fun H' b c => h H' (e.trans b) c
  | .exc x l, h => exact fun v dx H' a b => h v dx H' a (e.trans b)
  | .bad, h => exact h

/-! ### one part, then the rest -/
section
variable {X : Cx} {k : SK S} {T : Addr → Prop} {σ : L2.St} {H : Hp} {ρ : Env} {st : S} {W : WX} {c : E S} {e : Expr} {es : List Expr} {cs : Es S}
theorem SE.then (h : SE X k c e) {g : PyData → M S PyData} {Q Q' : VK} (n : EnvR X k T (fv c) ρ σ H) (o : Ok X k T st H) (t : Takes X W) (p : PostE X k T σ H (bnd (ev c ρ) g st) Q' W)
    (q : ∀ d st' v H', Rep T H' d v → Ext k.loc H H' → Ok X k T st' H' → PostE X k T σ H' (g d st') Q' W → Q v H') : wE X e σ H Q := by
  refine h T ρ st σ H Q W n o t ?_
  unfold bnd R.bind at p
  unfold PostE
  cases hr : ev c ρ st with
  | ok a =>
    obtain ⟨d, st'⟩ := a
    rw [hr] at p
    exact fun v H' r e k' => q d st' v H' r e (o.next e k') (PostE.from e p)
  | exc x l => rw [hr] at p; exact p
  | bad => rw [hr] at p; exact p
theorem SE.thenA (h : SE X k c e) {g : PyData → M S (List PyData)} {Q : VK} {Q' : List V → Hp → Prop} (n : EnvR X k T (fv c) ρ σ H) (o : Ok X k T st H) (t : Takes X W) (p : PostA X k T σ H (bnd (ev c ρ) g st) Q' W)
    (q : ∀ d st' v H', Rep T H' d v → Ext k.loc H H' → Ok X k T st' H' → PostA X k T σ H' (g d st') Q' W → Q v H') : wE X e σ H Q := by
  refine h T ρ st σ H Q W n o t ?_
  unfold bnd R.bind at p
  unfold PostE
  cases hr : ev c ρ st with
  | ok a =>
    obtain ⟨d, st'⟩ := a
    rw [hr] at p
    exact fun v H' r e k' => q d st' v H' r e (o.next e k') (PostA.from e p)
  | exc x l => rw [hr] at p; exact p
  | bad => rw [hr] at p; exact p
theorem SE.thenT (h : SE X k c e) {g : PyData → M S PyData} {Q : VK} {Q' : Bool → Hp → Prop} (n : EnvR X k T (fv c) ρ σ H) (o : Ok X k T st H) (t : Takes X W) (p : PostT X k T σ H (bnd (ev c ρ) g st) Q' W)
    (q : ∀ d st' v H', Rep T H' d v → Ext k.loc H H' → Ok X k T st' H' → PostT X k T σ H' (g d st') Q' W → Q v H') : wE X e σ H Q := by
  refine h T ρ st σ H Q W n o t ?_
  unfold bnd R.bind at p
  unfold PostE
  cases hr : ev c ρ st with
  | ok a =>
    obtain ⟨d, st'⟩ := a
    rw [hr] at p
    exact fun v H' r e k' => q d st' v H' r e (o.next e k') (PostT.from e p)
  | exc x l => rw [hr] at p; exact p
  | bad => rw [hr] at p; exact p
theorem SA.then (h : SA X k cs es) {g : List PyData → M S PyData} {Q : List V → Hp → Prop} {Q' : VK} (n : EnvR X k T (fvs cs) ρ σ H) (o : Ok X k T st H) (t : Takes X W) (p : PostE X k T σ H (bnd (evs cs ρ) g st) Q' W)
    (q : ∀ d st' v H', RepL T H' d v → Ext k.loc H H' → Ok X k T st' H' → PostE X k T σ H' (g d st') Q' W → Q v H') : wA X es σ H Q := by
  refine h T ρ st σ H Q W n o t ?_
  unfold bnd R.bind at p
  unfold PostA
  cases hr : evs cs ρ st with
  | ok a =>
    obtain ⟨d, st'⟩ := a
    rw [hr] at p
    exact fun v H' r e k' => q d st' v H' r e (o.next e k') (PostE.from e p)
  | exc x l => rw [hr] at p; exact p
  | bad => rw [hr] at p; exact p
theorem SA.thenA (h : SA X k cs es) {g : List PyData → M S (List PyData)} {Q : List V → Hp → Prop} {Q' : List V → Hp → Prop} (n : EnvR X k T (fvs cs) ρ σ H) (o : Ok X k T st H) (t : Takes X W) (p : PostA X k T σ H (bnd (evs cs ρ) g st) Q' W)
    (q : ∀ d st' v H', RepL T H' d v → Ext k.loc H H' → Ok X k T st' H' → PostA X k T σ H' (g d st') Q' W → Q v H') : wA X es σ H Q := by
  refine h T ρ st σ H Q W n o t ?_
  unfold bnd R.bind at p
  unfold PostA
  cases hr : evs cs ρ st with
  | ok a =>
    obtain ⟨d, st'⟩ := a
    rw [hr] at p
    exact fun v H' r e k' => q d st' v H' r e (o.next e k') (PostA.from e p)
  | exc x l => rw [hr] at p; exact p
  | bad => rw [hr] at p; exact p
/-- a test, then the rest -/
theorem ST.then (h : ST X k c e) {g : PyData → M S PyData} {Q : Bool → Hp → Prop} {Q' : VK} (n : EnvR X k T (fv c) ρ σ H) (o : Ok X k T st H) (t : Takes X W) (p : PostE X k T σ H (bnd (ev c ρ) g st) Q' W)
    (q : ∀ d st' H', Ext k.loc H H' → Ok X k T st' H' → PostE X k T σ H' (g d st') Q' W → Q (truthy d) H') : wT X e σ H Q := by
  refine h T ρ st σ H Q W n o t ?_
  unfold bnd R.bind at p
  unfold PostT
  cases hr : ev c ρ st with
  | ok a =>
    obtain ⟨d, st'⟩ := a
    rw [hr] at p
    exact fun H' e k' => q d st' H' e (o.next e k') (PostE.from e p)
  | exc x l => rw [hr] at p; exact p
  | bad => rw [hr] at p; exact p
theorem ST.thenT (h : ST X k c e) {g : PyData → M S PyData} {Q : Bool → Hp → Prop} {Q' : Bool → Hp → Prop} (n : EnvR X k T (fv c) ρ σ H) (o : Ok X k T st H) (t : Takes X W) (p : PostT X k T σ H (bnd (ev c ρ) g st) Q' W)
    (q : ∀ d st' H', Ext k.loc H H' → Ok X k T st' H' → PostT X k T σ H' (g d st') Q' W → Q (truthy d) H') : wT X e σ H Q := by
  refine h T ρ st σ H Q W n o t ?_
  unfold bnd R.bind at p
  unfold PostT
  cases hr : ev c ρ st with
  | ok a =>
    obtain ⟨d, st'⟩ := a
    rw [hr] at p
    exact fun H' e k' => q d st' H' e (o.next e k') (PostT.from e p)
  | exc x l => rw [hr] at p; exact p
  | bad => rw [hr] at p; exact p
/-- the end: a value is there -/
theorem PostE.val {d : PyData} {v : V} {H' : Hp} {Q : VK} {r : R PyData} (p : PostE X k T σ H (lft r st) Q W) (e : r = .ok d) (x : Ext k.loc H H') (rel : k.rel st H') (h : Rep T H' d v) : Q v H' := by
  subst e
  exact p v H' h x rel
theorem PostE.nobad {r : R PyData} {Q : VK} (p : PostE X k T σ H (lft r st) Q W) (e : r = .bad) : False := by
  subst e
  exact p
end
end
end Mir

set_option Elab.async false
set_option linter.all false
set_option maxRecDepth 100000
set_option maxHeartbeats 4000000
/-! Mir, part D: operations by values. -/
namespace Mir
open PySem PySem.Spec PyProof.Rows L2

abbrev NoT : Addr → Prop := fun _ => False
abbrev Dom (T : Addr → Prop) (H : Hp) : Prop := ∀ p, H p = none → ¬ T p
/-- what is left: the answer d, at any value and heap -/
abbrev Ans (X : Cx) (T : Addr → Prop) (d : PyData) (Q : VK) (H : Hp) : Prop := ∀ w H', Rep T H' d w → Ext NoT H H' → Q w H'
def rD2 (X : Cx) (f : PyData → PyData → R PyData) : R2 := fun v u H Q => ∃ T x y d, Dom T H ∧ Rep T H x v ∧ Rep T H y u ∧ f x y = .ok d ∧ Ans X T d Q H
theorem RepL.laid {T : Addr → Prop} {H : Hp} {ds : List PyData} {xs : List V} {p : Addr} {o : HO} (r : RepL T H ds xs) (h : H p = none) : RepL T (upd H p o) ds xs := r.ext (Ext.laid h)
theorem Rep.laid {T : Addr → Prop} {H : Hp} {ds : PyData} {xs : V} {p : Addr} {o : HO} (r : Rep T H ds xs) (h : H p = none) : Rep T (upd H p o) ds xs := r.ext (Ext.laid h)
/-- a new list, a new tuple -/
theorem Ans.lst {X : Cx} {T : Addr → Prop} {ds : List PyData} {xs : List V} {Q : VK} {H : Hp} (a : Ans X T (.list ds) Q H) (dm : Dom T H) (r : RepL T H ds xs) (z : xs.length ≤ sizeLine) (p : Addr) (h : H p = none) : Q (.ref p) (upd H p (.lst xs)) :=
  a _ _ (.mkList (dm p h) upd_same z (r.laid h)) (Ext.laid h)
theorem Ans.tup {X : Cx} {T : Addr → Prop} {ds : List PyData} {xs : List V} {Q : VK} {H : Hp} (a : Ans X T (.tuple ds) Q H) (dm : Dom T H) (r : RepL T H ds xs) (z : xs.length ≤ sizeLine) (p : Addr) (h : H p = none) : Q (.ref p) (upd H p (.tup xs)) :=
  a _ _ (.mkTuple (dm p h) upd_same z (r.laid h)) (Ext.laid h)
theorem small_iff {i : Int} (h : small i = true) : -(2 ^ 64) < i ∧ i < 2 ^ 64 := by
  unfold small at h
  have := of_decide_eq_true h
  omega

section
variable {X : Cx}
theorem op_binD (op : Operator) : OpR X (binaryOp op) (rD2 X (binD op)) := by
  intro pins s σ H v u vv uu Q I rv ru h
  obtain ⟨T, x, y, d, dm, hx, hy, hd, a⟩ := h
  unfold binD at hd
  split at hd
  · cases hx.int_inv; cases hy.int_inv; cases hd
    exact op_add pins s σ H _ _ vv uu Q I rv ru ⟨_, _, rfl, rfl, a _ _ .mkInt .refl⟩
  · split at hd
    · rename_i hz
      cases hd
      obtain ⟨rfl, _⟩ := hx.str_inv
      obtain ⟨rfl, _⟩ := hy.str_inv
      exact op_add_str pins s σ H _ _ vv uu Q I rv ru ⟨_, _, rfl, rfl, hz, a _ _ (.mkStr (by rw [Str.length_append]; exact hz)) .refl⟩
    · cases hd
  · split at hd
    · rename_i hz
      cases hd
      obtain ⟨l, xs, rfl, n1, h1, z1, r1⟩ := hx.list_inv
      obtain ⟨b, ys, rfl, n2, h2, z2, r2⟩ := hy.list_inv
      have hz' : xs.length + ys.length ≤ sizeLine := by rw [← r1.length, ← r2.length]; exact hz
      exact op_cat pins s σ H _ _ vv uu Q I rv ru ⟨_, _, _, _, rfl, rfl, h1, h2, hz', a.lst dm (r1.append r2) (by rw [List.length_append]; exact hz')⟩
    · cases hd
  · split at hd
    · rename_i hz
      cases hd
      obtain ⟨l, xs, rfl, _, h1, z1, r1⟩ := hx.tuple_inv
      obtain ⟨b, ys, rfl, _, h2, z2, r2⟩ := hy.tuple_inv
      have hz' : xs.length + ys.length ≤ sizeLine := by rw [← r1.length, ← r2.length]; exact hz
      refine op_catA pins s σ H _ _ vv uu Q I rv ru ⟨_, _, _, _, rfl, rfl, .of h1, .of h2, hz', fun e => ?_, fun _ e => ?_, fun _ _ => a.tup dm (r1.append r2) (by rw [List.length_append]; exact hz')⟩
      · have e' := r1.length
        rw [e, List.length_nil] at e'
        rw [List.eq_nil_of_length_eq_zero e', List.nil_append] at a
        exact a _ _ hy .refl
      · have e' := r2.length
        rw [e, List.length_nil] at e'
        rw [List.eq_nil_of_length_eq_zero e', List.append_nil] at a
        exact a _ _ hx .refl
    · cases hd
  · cases hx.int_inv; cases hy.int_inv; cases hd
    exact op_sub pins s σ H _ _ vv uu Q I rv ru ⟨_, _, rfl, rfl, a _ _ .mkInt .refl⟩
  · split at hd
    · rename_i hz
      cases hx.int_inv; cases hy.int_inv; cases hd
      rw [Bool.or_eq_true] at hz
      exact op_mul pins s σ H _ _ vv uu Q I rv ru ⟨_, _, rfl, rfl, hz.imp small_iff small_iff, a _ _ .mkInt .refl⟩
    · cases hd
  · split at hd
    · rename_i hz
      cases hd
      obtain ⟨l, xs, rfl, n1, h1, z1, r1⟩ := hx.list_inv
      cases hy.int_inv
      refine op_rep pins s σ H _ _ vv uu Q I rv ru ⟨_, _, _, rfl, rfl, h1, by omega, by omega, by rw [← r1.length]; exact hz.2, a.lst dm (r1.rep _) ?_⟩
      rw [← (r1.rep _).length]
      simp
      have := hz.2
      rw [Nat.mul_comm]; exact this
    · cases hd
  · split at hd
    · rename_i hz
      cases hx.int_inv; cases hy.int_inv; cases hd
      exact op_fdiv pins s σ H _ _ vv uu Q I rv ru ⟨_, _, rfl, rfl, hz, a _ _ .mkInt .refl⟩
    · cases hd
  · split at hd
    · rename_i hz
      cases hx.int_inv; cases hy.int_inv; cases hd
      exact op_mod pins s σ H _ _ vv uu Q I rv ru ⟨_, _, rfl, rfl, hz, a _ _ .mkInt .refl⟩
    · cases hd
  · split at hd
    · rename_i hz
      cases hx.int_inv; cases hy.int_inv; cases hd
      have := small_iff hz.2.2
      exact op_pow pins s σ H _ _ vv uu Q I rv ru ⟨_, _, rfl, rfl, ⟨hz.1, hz.2.1, by omega⟩, a _ _ .mkInt .refl⟩
    · cases hd
  · cases hd
end

/-! ### truth -/
theorem truthy_dT {P : Program} {w : World} {A : Around} {E : Value → Shared → Prop} {s : Shared} {κ : Type} [DecidableEq κ] {knd : HeapKind P w κ} {d : Addr} {xs : List (κ × Addr × Value)} {Q : Bool → Shared → Prop} (hd : (d == sysModules) = false) (hm : s.heap.DictOfH knd d xs) (hfit : (xs.length : Int) < 2 ^ 63)
    (h : Q (!xs.isEmpty) { s with toks := s.toks + 1 + 1 }) : wpAny (model P w) A (PySem.truthy (Value.ref d)) Q E s := by
  have hne : ((xs.length : Int) != 0) = !xs.isEmpty := by cases xs <;> simp <;> omega
  have key : wpAny (model P w) A (runValue (.builtin "len" ⟨[.ref d], []⟩)) (fun r s' => r = .int xs.length (s.toks + 1) ∧ Q (!xs.isEmpty) s') E s := by
    refine wpAny_runValue (codeAny_builtin entry_len ?_)
    rw [Around.under_plainId plain_len _]
    exact wpAny_mono (wpAny_len_body_dictH (Q := fun r s' => r = .int xs.length (s.toks + 1) ∧ Q (!xs.isEmpty) s') hd hm hfit ⟨rfl, h⟩)
      (fun fin s' h' => by obtain ⟨r, rfl, hq⟩ := h'; exact hq) fun _ _ e => e
  unfold PySem.truthy
  first
    | refine wpAny_bind (wpAny_callSpecial?_none (name := Str.ofString "__bool__") hm.typeIs noBool_dict ?_)
    | refine wpAny_bind (wpAny_pure (wpAny_bind (wpAny_callSpecial?_none (name := Str.ofString "__bool__") hm.typeIs noBool_dict ?_)))
  first
    | refine wpAny_bind (wpAny_specialOf (name := Str.ofString "__len__") hm.typeIs F.slot_dict_len.lookup ?_)
    | refine wpAny_bind (wpAny_pure (wpAny_bind (wpAny_specialOf (name := Str.ofString "__len__") hm.typeIs F.slot_dict_len.lookup ?_)))
  first
    | exact wpAny_bind (wpAny_mono key (fun r s' h' => by obtain ⟨rfl, hq⟩ := h'; exact wpAny_pure (hne ▸ hq)) fun _ _ e => e)
    | exact wpAny_bind (wpAny_pure (wpAny_bind (wpAny_mono key (fun r s' h' => by obtain ⟨rfl, hq⟩ := h'; exact wpAny_pure (hne ▸ hq)) fun _ _ e => e)))
theorem RepK.length {T : Addr → Prop} {H : Hp} : ∀ {ds : List (PyData × PyData)} {ks : List (Key × V)}, RepK T H ds ks → ds.length = ks.length
  | [], ks, h => by
    have e : ks = [] := by simpa [RepK] using h
    subst e; rfl
  | (k, d) :: ds, ks, h => by
    obtain ⟨kk, x, r, e, e2, h1, h2⟩ := by simpa only [RepK] using h
    subst e
    simp [RepK.length h2]
theorem RepT.length {T : Addr → Prop} {H : Hp} : ∀ {ds : List (PyData × PyData)} {ks : List (List Key × V)}, RepT T H ds ks → ds.length = ks.length
  | [], ks, h => by
    have e : ks = [] := by simpa [RepT] using h
    subst e; rfl
  | (k, d) :: ds, ks, h => by
    obtain ⟨kk, x, r, e, e2, h1, h2⟩ := by simpa only [RepT] using h
    subst e
    simp [RepT.length h2]
theorem empty_len {α β : Type} {xs : List α} {ys : List β} (h : xs.length = ys.length) : (!xs.isEmpty) = !ys.isEmpty := by
  cases xs <;> cases ys <;> simp_all
theorem Rep.dict_inv {T : Addr → Prop} {H : Hp} {kvs : List (PyData × PyData)} {v : V} (h : Rep T H (.dict kvs) v) : ∃ a, v = .ref a ∧ ¬ T a ∧ ((∃ ks, Rd H a (.dK ks) ∧ RepK T H kvs ks) ∨ ∃ ks, Rd H a (.dT ks) ∧ RepT T H kvs ks) := by simpa only [Rep] using h
theorem tru_D {X : Cx} : TruR X (fun v H Q => ∃ T d, Rep T H d v ∧ Q (truthy d) H) := by
  intro pins s σ H x v Q I rx h
  obtain ⟨T, d, hr, q⟩ := h
  have hl := line63
  have hs : sizeLine = 16777216 := sizeLine_eq
  match d, hr, q with
  | .none, hr, q => rw [hr.none_inv] at rx; exact tru_ok pins s σ H _ v Q I rx ⟨_, rfl, q⟩
  | .bool b, hr, q => rw [hr.bool_inv] at rx; exact tru_ok pins s σ H _ v Q I rx ⟨_, rfl, q⟩
  | .int b, hr, q => rw [hr.int_inv] at rx; exact tru_ok pins s σ H _ v Q I rx ⟨_, rfl, q⟩
  | .str b, hr, q =>
    obtain ⟨e, z⟩ := hr.str_inv
    rw [e] at rx
    refine tru_ok pins s σ H _ v Q I rx ⟨_, ⟨z, rfl⟩, ?_⟩
    have e2 : ((b.length : Int) != 0) = (b.length != 0) := by
      cases h : b.length <;> simp <;> omega
    rw [e2]; exact q
  | .list ds, hr, q =>
    obtain ⟨a, xs, e, n, h, z, r⟩ := hr.list_inv
    rw [e] at rx
    refine tru_ok pins s σ H _ v Q I rx ⟨_, .inl ⟨xs, .of h, rfl⟩, ?_⟩
    rw [← empty_len r.length]; exact q
  | .tuple ds, hr, q =>
    obtain ⟨a, xs, e, _, h, z, r⟩ := hr.tuple_inv
    rw [e] at rx
    refine tru_ok pins s σ H _ v Q I rx ⟨_, .inr (.inl ⟨xs, .of h, rfl⟩), ?_⟩
    rw [← empty_len r.length]; exact q
  | .dict ds, hr, q =>
    obtain ⟨a, e, n, h⟩ := hr.dict_inv
    rw [e] at rx
    obtain rfl : v = .ref a := rx
    rcases h with ⟨ks, h, r⟩ | ⟨ks, h, r⟩
    · obtain ⟨z, hd, vs, rel, dd⟩ := dk_rd I.hok h
      have hlen : ks.length = vs.length := Paired.length rel
      refine wpAny_truthy_dict hd dd (by omega) ⟨H, I.tok _, ?_⟩
      rw [← empty_len (r.length.trans hlen)]; exact q
    · obtain ⟨z, hd, vs, rel, dd⟩ := dt_rd I.hok h
      have hlen : ks.length = vs.length := Paired.length rel
      refine truthy_dT hd dd (by omega) ⟨H, I.tok _, ?_⟩
      rw [← empty_len (r.length.trans hlen)]; exact q

/-! ### comparisons -/
theorem okD_iff {d : PyData} (h : okD d = true) : d.plain = true ∧ d.depth ≤ 60 := by
  unfold okD at h
  rw [Bool.and_eq_true, decide_eq_true_eq] at h
  exact h
/-- v op u of two data, by the library's rule -/
theorem cmp_of {X : Cx} {op : CmpOp} {b : Bool} {pins : List (Addr × Obj)} {s : Shared} {σ : L2.St} {H : Hp} {T : Addr → Prop} {x y : PyData} {v u : V} {vv uu : Value} {Q : VK} (I : Inv X pins σ H s) (hx : Rep T H x v) (hy : Rep T H y u) (rv : RelV v vv) (ru : RelV u uu)
    (px : x.plain = true) (py : y.plain = true)
    (rule : ∀ as bs, Reads s.heap vv x as → Reads s.heap uu y bs → ∀ Q : Value → Shared → Prop, Q (.bool b) s → wpAny (model X.prog X.w) X.A (compareOp op vv uu) Q X.xe s)
    (q : Q (.bl b) H) : wpAny (model X.prog X.w) X.A (compareOp op vv uu) (EP X pins σ Q) X.xe s := by
  obtain ⟨as, r1⟩ := hx.reads I _ _ _ px rv
  obtain ⟨bs, r2⟩ := hy.reads I _ _ _ py ru
  exact rule as bs r1 r2 _ ⟨.bl b, H, I, rfl, q⟩
theorem ne_none_of {d : PyData} (h : isNone d = false) : d ≠ .none := by
  intro e; subst e; cases h
theorem ltOk_iff {a b : PyData} (h : ltOk a b = true) : W.alike a b = true ∧ a ≠ .none ∧ (a.plain = true ∧ a.depth ≤ 60) ∧ (b.plain = true ∧ b.depth ≤ 60) := by
  unfold ltOk at h
  simp only [Bool.and_eq_true, Bool.not_eq_true'] at h
  exact ⟨h.1.1.1, ne_none_of h.1.1.2, okD_iff h.1.2, okD_iff h.2⟩
theorem isNone_V {T : Addr → Prop} {H : Hp} {d : PyData} {v : V} (h : Rep T H d v) : decide (v = V.non) = isNone d := by
  match d, h with
  | .none, h => rw [h.none_inv]; rfl
  | .bool b, h => rw [h.bool_inv]; rfl
  | .int b, h => rw [h.int_inv]; rfl
  | .str b, h => rw [h.str_inv.1]; rfl
  | .list b, h => obtain ⟨a, xs, e, _⟩ := h.list_inv; rw [e]; rfl
  | .tuple b, h => obtain ⟨a, xs, e, _⟩ := h.tuple_inv; rw [e]; rfl
  | .dict b, h => obtain ⟨a, e, _⟩ := h.dict_inv; rw [e]; rfl

/-! ### keys -/
theorem kD_eqv (a b : Key) : PyData.eqv (kD a) (kD b) = decide (a = b) := by
  cases a with
  | inl i => cases b with
    | inl j =>
      show (i == j) = _
      rw [← key_ll]
    | inr y => rw [key_lr]; rfl
  | inr x => cases b with
    | inl j => rw [key_rl]; rfl
    | inr y =>
      show (x == y) = _
      rw [key_rr]
      by_cases e : x = y
      · subst e; simp
      · rw [decide_eq_false e]; exact beq_eq_false_iff_ne.mpr e
theorem kDs_eqv : ∀ a b : List Key, PyData.eqvAll (a.map kD) (b.map kD) = decide (a = b)
  | [], [] => rfl
  | [], _ :: _ => rfl
  | _ :: _, [] => rfl
  | x :: a, y :: b => by
    show (PyData.eqv (kD x) (kD y) && PyData.eqvAll (a.map kD) (b.map kD)) = _
    rw [kD_eqv, kDs_eqv a b]
    by_cases e : x = y
    · by_cases e2 : a = b
      · subst e e2; simp
      · simp [e, e2]
    · simp [e]
/-- a flat key stands as such; a tuple of flat keys as a tracked tuple of them -/
theorem keyD_all {ds : List PyData} (h : ds.all flatK = true) {T : Addr → Prop} {H : Hp} : ∀ {xs : List V}, RepL T H ds xs → ∃ kk : List Key, ds = kk.map kD ∧ xs = kk.map kV := by
  induction ds with
  | nil => intro xs r; exact ⟨[], rfl, r.nil_inv⟩
  | cons d ds ih =>
    intro xs r
    rw [List.all_cons, Bool.and_eq_true] at h
    obtain ⟨x, t, rfl, h1, h2⟩ := r.cons_inv
    obtain ⟨kk, e1, e2⟩ := ih h.2 h2
    match d, h.1, h1 with
    | .int i, _, h1 => exact ⟨.inl i :: kk, by simp [e1, kD], by simp [e2, kV, h1.int_inv]⟩
    | .str i, _, h1 => exact ⟨.inr i :: kk, by simp [e1, kD], by simp [e2, kV, h1.str_inv.1]⟩
theorem keyD_rep {T : Addr → Prop} {H : Hp} {k : PyData} {y : V} (h : keyD k = true) (r : Rep T H k y) : (∃ kk : Key, k = kD kk ∧ y = kV kk ∧ isTup k = false) ∨ ∃ (kk : List Key) (b : Addr), k = .tuple (kk.map kD) ∧ y = .ref b ∧ H b = some (.tup (kk.map kV)) ∧ isTup k = true := by
  match k, h, r with
  | .int i, _, r => exact .inl ⟨.inl i, rfl, r.int_inv, rfl⟩
  | .str i, _, r => exact .inl ⟨.inr i, rfl, r.str_inv.1, rfl⟩
  | .tuple ds, h, r =>
    obtain ⟨a, xs, e, _, q, z, hr⟩ := r.tuple_inv
    obtain ⟨kk, e1, e2⟩ := keyD_all h hr
    subst e1 e2
    exact .inr ⟨kk, a, rfl, e, q, rfl⟩
theorem kD_notup (a : Key) : isTup (kD a) = false := by cases a <;> rfl
/-- the answer of a dict's looking, beside the data's -/
def LookR (T : Addr → Prop) (H : Hp) : Option PyData → Option V → Prop
  | some d, some x => Rep T H d x
  | none, none => True
  | _, _ => False
theorem RepK.look {T : Addr → Prop} {H : Hp} (k : Key) : ∀ {kvs : List (PyData × PyData)} {ks : List (Key × V)}, RepK T H kvs ks → LookR T H (lookD kvs (kD k)) (valV ks k)
  | [], ks, h => by
    have e : ks = [] := by simpa [RepK] using h
    subst e; trivial
  | (k0, d) :: r, ks, h => by
    obtain ⟨kk, x, t, e, e2, h1, h2⟩ := by simpa only [RepK] using h
    subst e e2
    unfold lookD
    rw [kD_eqv]
    by_cases q : kk = k
    · rw [decide_eq_true q, if_pos rfl, valV_pos q]; exact h1
    · rw [decide_eq_false q, if_neg Bool.false_ne_true, valV_neg q]; exact RepK.look k h2
theorem RepT.look {T : Addr → Prop} {H : Hp} (k : List Key) : ∀ {kvs : List (PyData × PyData)} {ks : List (List Key × V)}, RepT T H kvs ks → LookR T H (lookD kvs (.tuple (k.map kD))) (valV ks k)
  | [], ks, h => by
    have e : ks = [] := by simpa [RepT] using h
    subst e; trivial
  | (k0, d) :: r, ks, h => by
    obtain ⟨kk, x, t, e, e2, h1, h2⟩ := by simpa only [RepT] using h
    subst e e2
    unfold lookD
    have q0 : PyData.eqv (.tuple (kk.map kD)) (.tuple (k.map kD)) = decide (kk = k) := kDs_eqv kk k
    rw [q0]
    by_cases q : kk = k
    · rw [decide_eq_true q, if_pos rfl, valV_pos q]; exact h1
    · rw [decide_eq_false q, if_neg Bool.false_ne_true, valV_neg q]; exact RepT.look k h2
theorem LookR.some_iff {T : Addr → Prop} {H : Hp} {o : Option PyData} {p : Option V} (h : LookR T H o p) : o.isSome = p.isSome := by
  cases o <;> cases p <;> first | rfl | exact h.elim
theorem RepK.kind {T : Addr → Prop} {H : Hp} {kvs : List (PyData × PyData)} {ks : List (Key × V)} {k : PyData} (r : RepK T H kvs ks) (h : kindOk kvs k = true) (t : isTup k = true) : kvs = [] ∧ ks = [] := by
  match kvs, r, h with
  | [], r, _ => exact ⟨rfl, by simpa [RepK] using r⟩
  | (k0, d) :: r, q, h =>
    obtain ⟨kk, x, t', e, e2, h1, h2⟩ := by simpa only [RepK] using q
    subst e2
    simp only [kindOk, Bool.and_eq_true] at h
    have h2 := h.2
    simp [kD_notup, t] at h2
theorem RepT.kind {T : Addr → Prop} {H : Hp} {kvs : List (PyData × PyData)} {ks : List (List Key × V)} {k : PyData} (r : RepT T H kvs ks) (h : kindOk kvs k = true) (t : isTup k = false) : kvs = [] ∧ ks = [] := by
  match kvs, r, h with
  | [], r, _ => exact ⟨rfl, by simpa [RepT] using r⟩
  | (k0, d) :: r, q, h =>
    obtain ⟨kk, x, t', e, e2, h1, h2⟩ := by simpa only [RepT] using q
    subst e2
    simp only [kindOk, Bool.and_eq_true] at h
    have h2 := h.2
    rw [t] at h2
    cases h2
/-- an empty dict is of both kinds -/
theorem dK_nil_H {X : Cx} {pins : List (Addr × Obj)} {σ : L2.St} {H : Hp} {s : Shared} {a : Addr} (I : Inv X pins σ H s) (h : Rd H a (.dK [])) : (a == sysModules) = false ∧ s.heap.DictOfH (tupleKind (mixKind X.prog X.w)) a [] := by
  obtain ⟨z, hd, vs, rel, dd⟩ := dk_rd I.hok h
  cases rel
  obtain ⟨o, es, ep, h1, h2, h3, _, h4, _⟩ := dd
  refine ⟨hd, o, es, ep, h1, h2, h3, ?_, fun x hx => (by cases hx), by simp⟩
  generalize es.toList = l at h4
  cases h4
  rfl
theorem dT_nil_K {X : Cx} {pins : List (Addr × Obj)} {σ : L2.St} {H : Hp} {s : Shared} {a : Addr} (I : Inv X pins σ H s) (h : Rd H a (.dT [])) : (a == sysModules) = false ∧ s.heap.DictOf (mixKind X.prog X.w) a [] := by
  obtain ⟨z, hd, vs, rel, dd⟩ := dt_rd I.hok h
  cases rel
  obtain ⟨o, es, ep, h1, h2, h3, h4, _, _⟩ := dd
  have e0 : es.toList = [] := h4
  refine ⟨hd, o, es, ep, h1, h2, h3, fun e he => ?_, by rw [e0]; exact .nil, by simp⟩
  rw [← Array.mem_toList_iff, e0] at he
  cases he
section
variable {X : Cx} {pins : List (Addr × Obj)} {σ : L2.St} {H : Hp} {s : Shared} {T : Addr → Prop} {kvs : List (PyData × PyData)} {k : PyData} {v y : V} {vv u : Value}
theorem in_dict {Q : Value → Shared → Prop} (hu : X.A.units + 1 < cLine) (I : Inv X pins σ H s) (hv : Rep T H (.dict kvs) v) (hk : Rep T H k y) (ok : kindOk kvs k = true) (rv : RelV v vv) (ry : RelV y u) (h : ∀ s', Inv X pins σ H s' → Q (.bool (lookD kvs k).isSome) s') :
    wpAny (model X.prog X.w) X.A (compareOp .In u vv) Q X.xe s := by
  obtain ⟨a, e, _, hd⟩ := hv.dict_inv
  subst e
  obtain rfl : vv = .ref a := rv
  have kd : keyD k = true := by unfold kindOk at ok; rw [Bool.and_eq_true] at ok; exact ok.1
  rcases keyD_rep kd hk with ⟨kk, rfl, rfl, it⟩ | ⟨kk, b, rfl, rfl, hb, it⟩
  · rcases hd with ⟨ks, hd, r⟩ | ⟨ks, hd, r⟩
    · refine d_in hu I (.inl ⟨ks, kk, hd, rfl, rfl⟩) ry fun s' I' => ?_
      rw [← (r.look kk).some_iff]; exact h s' I'
    · obtain ⟨rfl, rfl⟩ := r.kind ok it
      obtain ⟨hs, dd⟩ := dT_nil_K I hd
      exact wpAny_in_of (kV_is ry) hs dd.mapOf (h _ (I.tok _))
  · rcases hd with ⟨ks, hd, r⟩ | ⟨ks, hd, r⟩
    · obtain ⟨rfl, rfl⟩ := r.kind ok it
      obtain ⟨hs, dd⟩ := dK_nil_H I hd
      obtain rfl : u = .ref b := ry
      exact wpAny_in_heap (tupleKind_room_in1 hu) (key_of I.hok hb) hs dd (h _ (I.tok _))
    · refine d_in hu I (.inr ⟨ks, kk, b, hd, rfl, hb, rfl⟩) ry fun s' I' => ?_
      rw [← (r.look kk).some_iff]; exact h s' I'
theorem notIn_dict {Q : Value → Shared → Prop} (hu : X.A.units + 1 < cLine) (I : Inv X pins σ H s) (hv : Rep T H (.dict kvs) v) (hk : Rep T H k y) (ok : kindOk kvs k = true) (rv : RelV v vv) (ry : RelV y u) (h : ∀ s', Inv X pins σ H s' → Q (.bool (!(lookD kvs k).isSome)) s') :
    wpAny (model X.prog X.w) X.A (compareOp .NotIn u vv) Q X.xe s := by
  obtain ⟨a, e, _, hd⟩ := hv.dict_inv
  subst e
  obtain rfl : vv = .ref a := rv
  have kd : keyD k = true := by unfold kindOk at ok; rw [Bool.and_eq_true] at ok; exact ok.1
  rcases keyD_rep kd hk with ⟨kk, rfl, rfl, it⟩ | ⟨kk, b, rfl, rfl, hb, it⟩
  · rcases hd with ⟨ks, hd, r⟩ | ⟨ks, hd, r⟩
    · refine d_notIn hu I (.inl ⟨ks, kk, hd, rfl, rfl⟩) ry fun s' I' => ?_
      rw [← (r.look kk).some_iff]; exact h s' I'
    · obtain ⟨rfl, rfl⟩ := r.kind ok it
      obtain ⟨hs, dd⟩ := dT_nil_K I hd
      exact wpAny_notIn_of (kV_is ry) hs dd.mapOf (h _ (I.tok _))
  · rcases hd with ⟨ks, hd, r⟩ | ⟨ks, hd, r⟩
    · obtain ⟨rfl, rfl⟩ := r.kind ok it
      obtain ⟨hs, dd⟩ := dK_nil_H I hd
      obtain rfl : u = .ref b := ry
      exact wpAny_notIn_heap (tupleKind_room_in1 hu) (key_of I.hok hb) hs dd (h _ (I.tok _))
    · refine d_notIn hu I (.inr ⟨ks, kk, b, hd, rfl, hb, rfl⟩) ry fun s' I' => ?_
      rw [← (r.look kk).some_iff]; exact h s' I'
end

/-- every comparison -/
theorem op_cmpD {X : Cx} (hu : X.A.units + 100 < cLine) (op : CmpOp) : OpR X (compareOp op) (rD2 X (cmpD op)) := by
  intro pins s σ H v u vv uu Q I rv ru h
  obtain ⟨T, x, y, d, dm, hx, hy, hd, a⟩ := h
  unfold cmpD at hd
  split at hd
  · split at hd
    · rename_i hz
      rw [Bool.and_eq_true] at hz
      cases hd
      obtain ⟨p1, z1⟩ := okD_iff hz.1
      obtain ⟨p2, z2⟩ := okD_iff hz.2
      exact cmp_of (b := PyData.eqv x y) I hx hy rv ru p1 p2 (fun as bs r1 r2 Q q => SeqAt.eq_plain r1 r2 p1 p2 (by omega) q) (a _ _ .mkBool .refl)
    · cases hd
  · split at hd
    · rename_i hz
      rw [Bool.and_eq_true] at hz
      cases hd
      obtain ⟨p1, z1⟩ := okD_iff hz.1
      obtain ⟨p2, z2⟩ := okD_iff hz.2
      exact cmp_of (b := !PyData.eqv x y) I hx hy rv ru p1 p2 (fun as bs r1 r2 Q q => SeqAt.ne_plain r1 r2 p1 p2 (by omega) q) (a _ _ .mkBool .refl)
    · cases hd
  · split at hd
    · rename_i hz
      cases hd
      obtain ⟨al, nn, ⟨p1, z1⟩, p2, z2⟩ := ltOk_iff hz
      exact cmp_of (b := W.dataLt x y) I hx hy rv ru p1 p2 (fun as bs r1 r2 Q q => W.lt_data r1 r2 al nn (by omega) q) (a _ _ .mkBool .refl)
    · cases hd
  · split at hd
    · rename_i hz
      cases hd
      obtain ⟨al, nn, ⟨p1, z1⟩, p2, z2⟩ := ltOk_iff hz
      exact cmp_of (b := W.dataLt y x) I hx hy rv ru p1 p2 (fun as bs r1 r2 Q q => W.gt_data r1 r2 al nn (by omega) q) (a _ _ .mkBool .refl)
    · cases hd
  · split at hd
    · rename_i hz
      cases hd
      obtain ⟨al, nn, ⟨p1, z1⟩, p2, z2⟩ := ltOk_iff hz
      exact cmp_of (b := !W.dataLt y x) I hx hy rv ru p1 p2 (fun as bs r1 r2 Q q => W.le_data r1 r2 al nn (by omega) q) (a _ _ .mkBool .refl)
    · cases hd
  · split at hd
    · rename_i hz
      cases hd
      obtain ⟨al, nn, ⟨p1, z1⟩, p2, z2⟩ := ltOk_iff hz
      exact cmp_of (b := !W.dataLt x y) I hx hy rv ru p1 p2 (fun as bs r1 r2 Q q => W.ge_data r1 r2 al nn (by omega) q) (a _ _ .mkBool .refl)
    · cases hd
  · cases hd
    rw [hy.none_inv] at ru
    exact op_isN pins s σ H _ _ vv uu Q I rv ru ⟨rfl, by rw [isNone_V hx]; exact a _ _ .mkBool .refl⟩
  · cases hd
    rw [hy.none_inv] at ru
    exact op_notN pins s σ H _ _ vv uu Q I rv ru ⟨rfl, by rw [isNone_V hx]; exact a _ _ .mkBool .refl⟩
  · rename_i xs
    split at hd
    · rename_i hz
      rw [Bool.and_eq_true] at hz
      cases hd
      obtain ⟨p1, z1⟩ := okD_iff hz.1
      obtain ⟨p2, z2⟩ := okD_iff hz.2
      exact cmp_of (b := xs.any fun z => PyData.eqv z x) I hx hy rv ru p1 p2 (fun as bs r1 r2 Q q => SeqAt.in_list_data r2 r1 (by simpa [PyData.plain] using p2) p1 (by omega) q) (a _ _ .mkBool .refl)
    · cases hd
  · rename_i xs
    split at hd
    · rename_i hz
      rw [Bool.and_eq_true] at hz
      cases hd
      obtain ⟨p1, z1⟩ := okD_iff hz.1
      obtain ⟨p2, z2⟩ := okD_iff hz.2
      exact cmp_of (b := xs.any fun z => PyData.eqv z x) I hx hy rv ru p1 p2 (fun as bs r1 r2 Q q => SeqAt.in_tuple_data r2 r1 (by simpa [PyData.plain] using p2) p1 (by omega) q) (a _ _ .mkBool .refl)
    · cases hd
  · cases hd
    obtain ⟨e1, _⟩ := hx.str_inv
    obtain ⟨e2, _⟩ := hy.str_inv
    rw [e1] at rv
    rw [e2] at ru
    exact op_in_str pins s σ H _ _ vv uu Q I rv ru ⟨_, _, rfl, rfl, a _ _ .mkBool .refl⟩
  · rename_i kvs
    split at hd
    · rename_i hz
      cases hd
      exact in_dict (by omega) I hy hx hz ru rv fun s' I' => ⟨.bl _, H, I', rfl, a _ _ .mkBool .refl⟩
    · cases hd
  · rename_i xs
    split at hd
    · rename_i hz
      rw [Bool.and_eq_true] at hz
      cases hd
      obtain ⟨p1, z1⟩ := okD_iff hz.1
      obtain ⟨p2, z2⟩ := okD_iff hz.2
      exact cmp_of (b := !xs.any fun z => PyData.eqv z x) I hx hy rv ru p1 p2 (fun as bs r1 r2 Q q => SeqAt.notIn_list_data r2 r1 (by simpa [PyData.plain] using p2) p1 (by omega) q) (a _ _ .mkBool .refl)
    · cases hd
  · rename_i xs
    split at hd
    · rename_i hz
      rw [Bool.and_eq_true] at hz
      cases hd
      obtain ⟨p1, z1⟩ := okD_iff hz.1
      obtain ⟨p2, z2⟩ := okD_iff hz.2
      exact cmp_of (b := !xs.any fun z => PyData.eqv z x) I hx hy rv ru p1 p2 (fun as bs r1 r2 Q q => SeqAt.notIn_tuple_data r2 r1 (by simpa [PyData.plain] using p2) p1 (by omega) q) (a _ _ .mkBool .refl)
    · cases hd
  · cases hd
    obtain ⟨e1, _⟩ := hx.str_inv
    obtain ⟨e2, _⟩ := hy.str_inv
    rw [e1] at rv
    rw [e2] at ru
    exact op_notin_str pins s σ H _ _ vv uu Q I rv ru ⟨_, _, rfl, rfl, a _ _ .mkBool .refl⟩
  · rename_i kvs
    split at hd
    · rename_i hz
      cases hd
      exact notIn_dict (by omega) I hy hx hz ru rv fun s' I' => ⟨.bl _, H, I', rfl, a _ _ .mkBool .refl⟩
    · cases hd
  · cases hd
end Mir

set_option Elab.async false
set_option linter.all false
set_option maxRecDepth 100000
set_option maxHeartbeats 4000000
set_option exponentiation.threshold 3000
/-! Mir, part E: subscripts, slices, built-in functions, by values. -/
namespace Mir
open PySem PySem.Spec PyProof.Rows L2

theorem optR_ok {α : Type} {o : Option α} {a : α} (h : optR o = .ok a) : o = some a := by
  cases o with
  | none => cases h
  | some b => cases h; rfl
section
variable {X : Cx}
theorem ix_D (hu : X.A.units + 1 < cLine) : IxR X (rD2 X subD) := by
  intro value slice pins s σ H x y v u Q I rx ry h hs
  obtain ⟨T, dx, dy, d, dm, hx, hy, hd, a⟩ := h
  unfold subD at hd
  split at hd
  · obtain ⟨p, xs, e, n, hp, z, r⟩ := hx.list_inv
    obtain ⟨w, ew, rw'⟩ := r.atI (optR_ok hd)
    rw [e] at rx
    rw [hy.int_inv] at ry
    exact ix_list value slice pins s σ H _ _ v u Q I rx ry ⟨_, _, _, _, rfl, rfl, .of hp, ew, a _ _ rw' .refl⟩ hs
  · obtain ⟨p, xs, e, n, hp, z, r⟩ := hx.tuple_inv
    obtain ⟨w, ew, rw'⟩ := r.atI (optR_ok hd)
    rw [e] at rx
    rw [hy.int_inv] at ry
    exact ix_tup value slice pins s σ H _ _ v u Q I rx ry ⟨_, _, _, _, rfl, rfl, .of hp, ew, a _ _ rw' .refl⟩ hs
  · obtain ⟨e, z⟩ := hx.str_inv
    rw [e] at rx
    rw [hy.int_inv] at ry
    obtain ⟨c, ec, rfl⟩ := Option.map_eq_some_iff.mp (optR_ok hd)
    exact ix_str value slice pins s σ H _ _ v u Q I rx ry ⟨_, _, _, rfl, rfl, z, ec, a _ _ (.mkStr (by show 1 ≤ sizeLine; rw [sizeLine_eq]; omega)) .refl⟩ hs
  · rename_i kvs
    split at hd
    · rename_i ok
      have look := optR_ok hd
      obtain ⟨p, e, _, hd'⟩ := hx.dict_inv
      rw [e] at rx
      obtain rfl : v = .ref p := rx
      have kd : keyD dy = true := by unfold kindOk at ok; rw [Bool.and_eq_true] at ok; exact ok.1
      have fin : ∀ {g : Option V}, LookR T H (lookD kvs dy) g → ∃ x, g = some x ∧ Rep T H d x := fun {g} l => by
        rw [look] at l
        cases g with
        | none => exact l.elim
        | some x => exact ⟨x, rfl, l⟩
      have go : ∀ {x : V}, DGet H p y (some x) → Rep T H d x → wpAny (model X.prog X.w) X.A (subscriptTail value slice (.ref p) u) (EP X pins σ Q) X.xe s := fun {x} g rx' =>
        tail_any (dict_typeIs I g) PySem.F.slot_dict_getitem.lookup (d_getItem hu I g ry fun w' s3 I3 rw' => ⟨x, H, I3, rw', a _ _ rx' .refl⟩) hs
      rcases keyD_rep kd hy with ⟨kk, rfl, rfl, it⟩ | ⟨kk, b, rfl, rfl, hb, it⟩
      · rcases hd' with ⟨ks, hk, r⟩ | ⟨ks, hk, r⟩
        · obtain ⟨x, e1, e2⟩ := fin (r.look kk)
          exact go (.inl ⟨ks, kk, hk, rfl, e1.symm⟩) e2
        · obtain ⟨rfl, rfl⟩ := r.kind ok it
          cases look
      · rcases hd' with ⟨ks, hk, r⟩ | ⟨ks, hk, r⟩
        · obtain ⟨rfl, rfl⟩ := r.kind ok it
          cases look
        · obtain ⟨x, e1, e2⟩ := fin (r.look kk)
          exact go (.inr ⟨ks, kk, b, hk, rfl, hb, e1.symm⟩) e2
    · cases hd
  · cases hd

/-- a[lo:hi] -/
def rSlD (X : Cx) : V → Option Int → Option Int → Hp → VK → Prop := fun v lo hi H Q => ∃ T x d, Dom T H ∧ Rep T H x v ∧ cutX x lo hi = .ok d ∧ Ans X T d Q H
theorem cutS_len (z : Str) (lo hi : Option Int) : (L2.cutS z lo hi).length ≤ z.length := L2.cutS_length z lo hi
theorem sl_D : SlR X (rSlD X) := by
  intro pins s σ H x v vl vu lo hi sl Q I rx hs pl pu h
  obtain ⟨T, dx, d, dm, hx, hd, a⟩ := h
  unfold cutX at hd
  split at hd
  · cases hd
    obtain ⟨p, xs, e, n, hp, z, r⟩ := hx.list_inv
    rw [e] at rx
    exact sl_list pins s σ H _ v vl vu _ _ sl Q I rx hs pl pu ⟨_, _, rfl, .of hp, a.lst dm (r.cut _ _) (Nat.le_trans (cutV_length _ _ _) z)⟩
  · cases hd
    obtain ⟨p, xs, e, n, hp, z, r⟩ := hx.tuple_inv
    subst e
    refine sl_tupA pins s σ H _ v vl vu _ _ sl Q I rx hs pl pu ⟨_, _, rfl, .of hp, fun ⟨w1, w2⟩ => ?_, fun _ => a.tup dm (r.cut _ _) (Nat.le_trans (cutV_length _ _ _) z)⟩
    refine a _ _ ?_ .refl
    have e : ∀ ds : List PyData, RepL T H ds xs → cutD ds lo hi = ds := fun ds r => by
      unfold cutD
      rw [r.length, w1, w2]
      simp [← r.length]
    rw [e _ r]
    exact hx
  · cases hd
    obtain ⟨e, z⟩ := hx.str_inv
    rw [e] at rx
    exact sl_str pins s σ H _ v vl vu _ _ sl Q I rx hs pl pu ⟨_, rfl, z, a _ _ (.mkStr (Nat.le_trans (cutS_len _ _ _) z)) .refl⟩
  · cases hd

/-! ### built-in functions -/
def rBlt (X : Cx) (f : B) : List V → Hp → VK → Prop := fun vs H Q => ∃ T ds d, Dom T H ∧ RepL T H ds vs ∧ bltD f ds = .ok d ∧ Ans X T d Q H
theorem RepL.one {T : Addr → Prop} {H : Hp} {d : PyData} {xs : List V} (h : RepL T H [d] xs) : ∃ x, xs = [x] ∧ Rep T H d x := by
  obtain ⟨x, r, rfl, h1, h2⟩ := h.cons_inv
  rw [h2.nil_inv]; exact ⟨x, rfl, h1⟩
theorem RepL.two {T : Addr → Prop} {H : Hp} {d e : PyData} {xs : List V} (h : RepL T H [d, e] xs) : ∃ x y, xs = [x, y] ∧ Rep T H d x ∧ Rep T H e y := by
  obtain ⟨x, r, rfl, h1, h2⟩ := h.cons_inv
  obtain ⟨y, rfl, h3⟩ := h2.one
  exact ⟨x, y, rfl, h1, h3⟩
theorem itemsR_rep {T : Addr → Prop} {H : Hp} {d : PyData} {xs : List PyData} {v : V} (h : itemsR d = .ok xs) (r : Rep T H d v) : ∃ a vs, v = .ref a ∧ ¬ T a ∧ ((d = .list xs ∧ H a = some (.lst vs)) ∨ (d = .tuple xs ∧ H a = some (.tup vs))) ∧ vs.length ≤ sizeLine ∧ RepL T H xs vs := by
  unfold itemsR at h
  split at h
  · cases h
    obtain ⟨p, xs, e, n, hp, z, r⟩ := r.list_inv
    exact ⟨p, xs, e, n, .inl ⟨rfl, hp⟩, z, r⟩
  · cases h
    obtain ⟨p, xs, e, n, hp, z, r⟩ := r.tuple_inv
    exact ⟨p, xs, e, n, .inr ⟨rfl, hp⟩, z, r⟩
  · cases h
theorem bind_ok {α β : Type} {r : R α} {f : α → R β} {b : β} (h : r.bind f = .ok b) : ∃ a, r = .ok a ∧ f a = .ok b := by
  cases r with
  | ok a => exact ⟨a, rfl, h⟩
  | exc x l => cases h
  | bad => cases h
theorem one_ok {f : PyData → R PyData} {ds : List PyData} {d : PyData} (h : one f ds = .ok d) : ∃ x, ds = [x] ∧ f x = .ok d := by
  unfold one at h
  split at h
  · exact ⟨_, rfl, h⟩
  · cases h
theorem two_ok {f : PyData → PyData → R PyData} {ds : List PyData} {d : PyData} (h : two f ds = .ok d) : ∃ x y, ds = [x, y] ∧ f x y = .ok d := by
  unfold two at h
  split at h
  · exact ⟨_, _, rfl, h⟩
  · cases h
theorem intR_ok {d : PyData} {i : Int} (h : intR d = .ok i) : d = .int i := by
  unfold intR at h
  split at h
  · cases h; rfl
  · cases h
theorem blt_len : CallR X (.builtin "len") (rBlt X .len) := by
  intro pins s σ H vs us Q I r h
  obtain ⟨T, ds, d, dm, hr, hd, a⟩ := h
  obtain ⟨x, rfl, hd⟩ := one_ok hd
  obtain ⟨v, rfl, hx⟩ := hr.one
  have hd : lenD x = .ok d := hd
  unfold lenD at hd
  split at hd
  · cases hd
    obtain ⟨p, xs, e, n, hp, z, r'⟩ := hx.list_inv
    subst e
    exact call_len pins s σ H _ us Q I r ⟨_, _, rfl, .inl ⟨xs, .of hp, rfl⟩, by rw [← r'.length]; exact a _ _ .mkInt .refl⟩
  · cases hd
    obtain ⟨p, xs, e, n, hp, z, r'⟩ := hx.tuple_inv
    subst e
    exact call_len pins s σ H _ us Q I r ⟨_, _, rfl, .inr ⟨xs, .of hp, rfl⟩, by rw [← r'.length]; exact a _ _ .mkInt .refl⟩
  · cases hd
    obtain ⟨e, z⟩ := hx.str_inv
    subst e
    exact call_len pins s σ H _ us Q I r ⟨_, _, rfl, ⟨z, rfl⟩, a _ _ .mkInt .refl⟩
  · cases hd
    obtain ⟨p, e, n, hd⟩ := hx.dict_inv
    subst e
    obtain ⟨u, rfl, ru⟩ := vals1 r
    obtain rfl : u = .ref p := ru
    rcases hd with ⟨ks, hd, r'⟩ | ⟨ks, hd, r'⟩
    · exact d_len I hd fun t s' I' => ⟨V.int (ks.length : Nat), H, I', ⟨_, rfl⟩, by rw [← r'.length]; exact a _ _ .mkInt .refl⟩
    · obtain ⟨z, hs, ys, rel, dd⟩ := dt_rd I.hok hd
      have hl : ks.length = ys.length := Paired.length rel
      refine call_len_dictH hs dd (by rw [← hl]; rw [sizeLine_eq] at z; omega) ?_
      rw [← hl, ← r'.length]
      exact ⟨V.int _, H, I.tok _, ⟨_, rfl⟩, a _ _ .mkInt .refl⟩
  · cases hd
theorem blt_tuple : CallR X (.type "tuple") (rBlt X .tuple_) := by
  intro pins s σ H vs us Q I r h
  obtain ⟨T, ds, d, dm, hr, hd, a⟩ := h
  obtain ⟨x, rfl, hd⟩ := one_ok hd
  obtain ⟨v, rfl, hx⟩ := hr.one
  obtain ⟨xs, h1, h2⟩ := bind_ok hd
  cases h2
  obtain ⟨p, ws, rfl, n, c, z, rr⟩ := itemsR_rep h1 hx
  rcases c with ⟨rfl, hp⟩ | ⟨rfl, hp⟩
  · exact call_tuple_of pins s σ H _ us Q I r ⟨p, ws, rfl, .inl ⟨.of hp, a.tup dm rr z⟩⟩
  · exact call_tuple_of pins s σ H _ us Q I r ⟨p, ws, rfl, .inr ⟨.of hp, a _ _ hx .refl⟩⟩
theorem blt_list : CallR X (.type "list") (rBlt X .list_) := by
  intro pins s σ H vs us Q I r h
  obtain ⟨T, ds, d, dm, hr, hd, a⟩ := h
  obtain ⟨x, rfl, hd⟩ := one_ok hd
  obtain ⟨v, rfl, hx⟩ := hr.one
  obtain ⟨xs, h1, h2⟩ := bind_ok hd
  cases h2
  obtain ⟨p, ws, rfl, n, c, z, rr⟩ := itemsR_rep h1 hx
  rcases c with ⟨rfl, hp⟩ | ⟨rfl, hp⟩
  · exact call_list_of pins s σ H _ us Q I r ⟨p, ws, rfl, .inl (.of hp), a.lst dm rr z⟩
  · exact call_list_of pins s σ H _ us Q I r ⟨p, ws, rfl, .inr (.of hp), a.lst dm rr z⟩
theorem plainAll_of {xs : List PyData} (h : ∀ d ∈ xs, okD d = true) : PyData.plainAll xs = true ∧ PyData.depthAll xs ≤ 60 := by
  induction xs with
  | nil => exact ⟨rfl, Nat.zero_le _⟩
  | cons d ds ih =>
    obtain ⟨a, b⟩ := ih fun d hd => h d (List.mem_cons_of_mem _ hd)
    obtain ⟨p, q⟩ := okD_iff (h d List.mem_cons_self)
    refine ⟨by simp [PyData.plainAll, p, a], ?_⟩
    rw [PyData.depthAll]
    omega
theorem truthy_eq (d : PyData) : PyData.truthy d = truthy d := by
  cases d with
  | str x =>
    show ((x.length : Int) != 0) = (x.length != 0)
    cases x.length <;> simp <;> omega
  | _ => rfl
theorem fits_of {T : Addr → Prop} {H : Hp} {d : PyData} {v : V} (h : Rep T H d v) : d.fits63 := by
  have hs : sizeLine = 16777216 := sizeLine_eq
  match d, h with
  | .none, _ => trivial
  | .bool _, _ => trivial
  | .int _, _ => trivial
  | .dict _, _ => trivial
  | .str x, h => have := h.str_inv.2; show (x.length : Int) < 2 ^ 63; omega
  | .list x, h => obtain ⟨p, xs, e, n, hp, z, r⟩ := h.list_inv; have := r.length; show (x.length : Int) < 2 ^ 63; omega
  | .tuple x, h => obtain ⟨p, xs, e, n, hp, z, r⟩ := h.tuple_inv; have := r.length; show (x.length : Int) < 2 ^ 63; omega
theorem RepL.mem {T : Addr → Prop} {H : Hp} : ∀ {ds : List PyData} {xs : List V}, RepL T H ds xs → ∀ d ∈ ds, ∃ x ∈ xs, Rep T H d x
  | [], _, _, d, hd => by cases hd
  | e :: ds, xs, h, d, hd => by
    obtain ⟨x, r, rfl, h1, h2⟩ := h.cons_inv
    rcases List.mem_cons.mp hd with rfl | hd
    · exact ⟨x, List.mem_cons_self, h1⟩
    · obtain ⟨y, hy, q⟩ := h2.mem d hd
      exact ⟨y, List.mem_cons_of_mem _ hy, q⟩
theorem blt_all (hc : X.calm = true) : CallR X (.builtin "all") (rBlt X .all_) := by
  intro pins s σ H vs us Q I r h
  obtain ⟨T, ds, d, dm, hr, hd, a⟩ := h
  obtain ⟨x, rfl, hd⟩ := one_ok hd
  obtain ⟨v, rfl, hx⟩ := hr.one
  have hd : allD x = .ok d := hd
  unfold allD at hd
  split at hd
  · rename_i xs _ _
    split at hd
    · rename_i hz
      cases hd
      rw [List.all_eq_true] at hz
      obtain ⟨p, ws, e, n, hp, z, rr⟩ := hx.list_inv
      subst e
      obtain ⟨u, rfl, ru⟩ := vals1 r
      obtain rfl : u = .ref p := ru
      obtain ⟨its, rv, pl, _⟩ := I.list (.of hp)
      obtain ⟨as, rd⟩ := RepL.reads I _ _ _ (plainAll_of hz).1 rr rv
      refine PySem.W.all_list_data (I.ok.hd hc) pl.isList (by simpa using rd) (plainAll_of hz).1 (fun d hd => let ⟨y, _, q⟩ := rr.mem d hd; fits_of q) fun h' tk hk => ⟨.bl _, H, I.kept hk, rfl, ?_⟩
      rw [show xs.all PyData.truthy = xs.all truthy from by rw [funext truthy_eq]]
      exact a _ _ .mkBool .refl
    · cases hd
  · cases hd
theorem blt_any (hc : X.calm = true) : CallR X (.builtin "any") (rBlt X .any_) := by
  intro pins s σ H vs us Q I r h
  obtain ⟨T, ds, d, dm, hr, hd, a⟩ := h
  obtain ⟨x, rfl, hd⟩ := one_ok hd
  obtain ⟨v, rfl, hx⟩ := hr.one
  have hd : anyD x = .ok d := hd
  unfold anyD at hd
  split at hd
  · rename_i xs _ _
    split at hd
    · rename_i hz
      cases hd
      rw [List.all_eq_true] at hz
      obtain ⟨p, ws, e, n, hp, z, rr⟩ := hx.list_inv
      subst e
      obtain ⟨u, rfl, ru⟩ := vals1 r
      obtain rfl : u = .ref p := ru
      obtain ⟨its, rv, pl, _⟩ := I.list (.of hp)
      obtain ⟨as, rd⟩ := RepL.reads I _ _ _ (plainAll_of hz).1 rr rv
      refine PySem.W.any_list_data (I.ok.hd hc) pl.isList (by simpa using rd) (plainAll_of hz).1 (fun d hd => let ⟨y, _, q⟩ := rr.mem d hd; fits_of q) fun h' tk hk => ⟨.bl _, H, I.kept hk, rfl, ?_⟩
      rw [show xs.any PyData.truthy = xs.any truthy from by rw [funext truthy_eq]]
      exact a _ _ .mkBool .refl
    · cases hd
  · cases hd
theorem blt_int : CallR X (.type "int") (rBlt X .int_) := by
  intro pins s σ H vs us Q I r h
  obtain ⟨T, ds, d, dm, hr, hd, a⟩ := h
  obtain ⟨x, rfl, hd⟩ := one_ok hd
  obtain ⟨v, rfl, hx⟩ := hr.one
  have hd : intD x = .ok d := hd
  unfold intD at hd
  split at hd
  · cases hd
    rw [hx.int_inv] at r
    exact call_int1 pins s σ H _ us Q I r (.inl ⟨_, rfl, a _ _ .mkInt .refl⟩)
  · cases hd
    rw [hx.bool_inv] at r
    exact call_int1 pins s σ H _ us Q I r (.inr ⟨_, rfl, a _ _ .mkInt .refl⟩)
  · split at hd
    · split at hd
      · rename_i hn hz
        cases hd
        rw [hx.str_inv.1] at r
        exact call_int_str pins s σ H _ us Q I r ⟨_, _, rfl, hn, hz, a _ _ .mkInt .refl⟩
      · cases hd
    · cases hd
  · cases hd
theorem allInts_some : ∀ {xs : List PyData} {ns : List Int}, allInts xs = some ns → xs = ns.map .int
  | [], ns, h => by cases h; rfl
  | .int i :: r, ns, h => by
    obtain ⟨m, hm, rfl⟩ := Option.map_eq_some_iff.mp (show (allInts r).map (i :: ·) = some ns from h)
    rw [allInts_some hm]; rfl
theorem RepL.ints {T : Addr → Prop} {H : Hp} : ∀ {ns : List Int} {xs : List V}, RepL T H (ns.map .int) xs → xs = ns.map V.int
  | [], _, h => h.nil_inv
  | n :: ns, xs, h => by
    obtain ⟨x, r, rfl, h1, h2⟩ := RepL.cons_inv (d := .int n) h
    rw [h1.int_inv, h2.ints]; rfl
theorem blt_sum (hc : X.calm = true) : CallR X (.builtin "sum") (rBlt X .sum) := by
  intro pins s σ H vs us Q I r h
  obtain ⟨T, ds, d, dm, hr, hd, a⟩ := h
  obtain ⟨x, rfl, hd⟩ := one_ok hd
  obtain ⟨v, rfl, hx⟩ := hr.one
  have hd : sumD x = .ok d := hd
  unfold sumD at hd
  split at hd
  · split at hd
    · rename_i hn
      cases hd
      rw [allInts_some hn] at hx
      obtain ⟨p, ws, e, n, hp, z, rr⟩ := hx.list_inv
      subst e
      rw [rr.ints] at hp
      exact cr_sum hc pins s σ H _ us Q I r ⟨p, _, rfl, .of hp, a _ _ .mkInt .refl⟩
    · cases hd
  · cases hd
theorem blt_min2 (hc : X.calm = true) : CallR X (.builtin "min") (rBlt X .min2) := by
  intro pins s σ H vs us Q I r h
  obtain ⟨T, ds, d, dm, hr, hd, a⟩ := h
  obtain ⟨x, y, rfl, hd⟩ := two_ok hd
  obtain ⟨v, w, rfl, hx, hy⟩ := hr.two
  obtain ⟨i, hi, hd⟩ := bind_ok hd
  obtain ⟨j, hj, hd⟩ := bind_ok hd
  cases hd
  rw [intR_ok hi] at hx
  rw [intR_ok hj] at hy
  rw [hx.int_inv, hy.int_inv] at r
  exact call_min2 hc pins s σ H _ us Q I r ⟨_, _, rfl, a _ _ .mkInt .refl⟩
theorem blt_max2 (hc : X.calm = true) : CallR X (.builtin "max") (rBlt X .max2) := by
  intro pins s σ H vs us Q I r h
  obtain ⟨T, ds, d, dm, hr, hd, a⟩ := h
  obtain ⟨x, y, rfl, hd⟩ := two_ok hd
  obtain ⟨v, w, rfl, hx, hy⟩ := hr.two
  obtain ⟨i, hi, hd⟩ := bind_ok hd
  obtain ⟨j, hj, hd⟩ := bind_ok hd
  cases hd
  rw [intR_ok hi] at hx
  rw [intR_ok hj] at hy
  rw [hx.int_inv, hy.int_inv] at r
  exact call_max2 hc pins s σ H _ us Q I r ⟨_, _, rfl, a _ _ .mkInt .refl⟩
theorem blt_abs : CallR X (.builtin "abs") (rBlt X .abs) := by
  intro pins s σ H vs us Q I r h
  obtain ⟨T, ds, d, dm, hr, hd, a⟩ := h
  obtain ⟨x, rfl, hd⟩ := one_ok hd
  obtain ⟨v, rfl, hx⟩ := hr.one
  obtain ⟨i, hi, hd⟩ := bind_ok hd
  cases hd
  rw [intR_ok hi] at hx
  rw [hx.int_inv] at r
  exact call_abs pins s σ H _ us Q I r ⟨_, rfl, a _ _ .mkInt .refl⟩
theorem num_len {n : Nat} (h : n.log2 < 1920) : (Str.ofString (toString ((n : Nat) : Int))).length ≤ 1920 := by
  have h1 : n < 10 ^ 1920 := by
    by_cases e : n = 0
    · subst e; exact Nat.pow_pos (by decide)
    · have q := (Nat.log2_lt e).mp h
      exact Nat.lt_of_lt_of_le q (Nat.pow_le_pow_left (by decide) _)
  have := TL.numL_len (by decide) h1
  rw [← TL.tl_num] at this
  simpa [Str.length] using this
theorem str_len {i : Int} (h : i.natAbs.log2 < 1920) : (toString i : Str).length ≤ sizeLine := by
  have hs : sizeLine = 16777216 := sizeLine_eq
  show (Str.ofString (toString i)).length ≤ sizeLine
  by_cases h0 : 0 ≤ i
  · obtain ⟨n, rfl⟩ := Int.eq_ofNat_of_zero_le h0
    have := num_len (n := n) (by simpa using h)
    omega
  · have e := len_text_negI (n := i) (by omega)
    obtain ⟨n, hn⟩ := Int.eq_ofNat_of_zero_le (show 0 ≤ 0 - i by omega)
    rw [hn] at e
    have : i.natAbs = n := by omega
    rw [this] at h
    have := num_len h
    omega
theorem blt_str : CallR X (.type "str") (rBlt X .str_) := by
  intro pins s σ H vs us Q I r h
  obtain ⟨T, ds, d, dm, hr, hd, a⟩ := h
  obtain ⟨x, rfl, hd⟩ := one_ok hd
  obtain ⟨v, rfl, hx⟩ := hr.one
  obtain ⟨i, hi, hd⟩ := bind_ok hd
  split at hd
  · rename_i hz
    cases hd
    rw [intR_ok hi] at hx
    rw [hx.int_inv] at r
    exact call_str_int pins s σ H _ us Q I r ⟨_, rfl, hz, a _ _ (.mkStr (str_len hz)) .refl⟩
  · cases hd
theorem alikes_iff {xs : List PyData} (h : alikes xs = true) : (∀ d ∈ xs, okD d = true) ∧ (∀ d ∈ xs, d ≠ .none) ∧ W.AllAlike xs := by
  unfold alikes at h
  rw [List.all_eq_true] at h
  refine ⟨fun d hd => ?_, fun d hd => ?_, fun d hd e he => ?_⟩
  · have := h d hd
    simp only [Bool.and_eq_true] at this
    exact this.1.1
  · have := h d hd
    simp only [Bool.and_eq_true, Bool.not_eq_true'] at this
    exact ne_none_of this.1.2
  · have := h d hd
    simp only [Bool.and_eq_true, List.all_eq_true] at this
    exact this.2 e he
/-- the item that is the least (greatest): it stands for itself -/
theorem pick_rep {pins : List (Addr × Obj)} {s : Shared} {σ : L2.St} {H : Hp} {T : Addr → Prop} {xs : List PyData} {ws : List V} {its : List Value} {i : Nat} {v : Value} {m : PyData} {h' : Heap} {bs : List Addr} (I : Inv X pins σ H s) (pl : ∀ d ∈ xs, okD d = true)
    (rr : RepL T H xs ws) (rv : Vals ws its) (hv : its[i]? = some v) (hk : ∀ b o, s.heap.get? b = some o → h'.get? b = some o) (hm : Reads h' v m bs) : ∃ x, RelV x v ∧ Rep T H m x := by
  have hl : i < ws.length := by
    have := rv.length
    have := (List.getElem?_eq_some_iff.mp hv).1
    omega
  obtain ⟨u, hu, ru⟩ := rv.get (List.getElem?_eq_getElem hl)
  rw [hv] at hu; cases hu
  have hl2 : i < xs.length := by rw [rr.length]; exact hl
  obtain ⟨x, hx, rx⟩ := rr.get (List.getElem?_eq_getElem hl2)
  rw [List.getElem?_eq_getElem hl] at hx; cases hx
  have pd := (okD_iff (pl _ (List.getElem_mem hl2))).1
  obtain ⟨as, rd⟩ := rx.reads I _ _ _ pd ru
  have e := SeqAt.plain_unique _ _ _ _ _ pd (PyProof.Rows.Reads.keeps hk rd) hm
  exact ⟨_, ru, by rw [← e]; exact rx⟩
theorem blt_min1 (hu : X.A.units + 100 < cLine) (hc : X.calm = true) : CallR X (.builtin "min") (rBlt X .min1) := by
  intro pins s σ H vs us Q I r h
  obtain ⟨T, ds, d, dm, hr, hd, a⟩ := h
  obtain ⟨x, rfl, hd⟩ := one_ok hd
  obtain ⟨v, rfl, hx⟩ := hr.one
  obtain ⟨xs, h1, h2⟩ := bind_ok hd
  unfold minR at h2
  split at h2
  · cases h2
  · rename_i d0 ds'
    split at h2
    · rename_i hz
      cases h2
      obtain ⟨q1, q2, q3⟩ := alikes_iff hz
      obtain ⟨p, ws, rfl, n, c, z, rr⟩ := itemsR_rep h1 hx
      obtain ⟨u, rfl, ru⟩ := vals1 r
      obtain rfl : u = .ref p := ru
      obtain ⟨pa, da⟩ := plainAll_of q1
      rcases c with ⟨rfl, hp⟩ | ⟨rfl, hp⟩
      · obtain ⟨its, rv, pl, _⟩ := I.list (.of hp)
        obtain ⟨as, rd⟩ := RepL.reads I _ _ _ pa rr rv
        refine PySem.W.min_list_data (I.ok.hd hc) pl.isList (by simpa using rd) ⟨fun x hx y hy => q3 x hx y hy, q2⟩ (by omega) fun i v h' tk bs hv hm hk => ?_
        obtain ⟨x, rx, rep⟩ := pick_rep I q1 rr rv (by simpa using hv) hk hm
        exact ⟨x, H, I.kept hk, rx, a _ _ rep .refl⟩
      · obtain ⟨its, rv, pl, _⟩ := I.tuple (.of hp)
        obtain ⟨as, rd⟩ := RepL.reads I _ _ _ pa rr rv
        refine PySem.W.min_tuple_data (I.ok.hd hc) pl (by simpa using rd) ⟨fun x hx y hy => q3 x hx y hy, q2⟩ (by omega) fun i v h' tk bs hv hm hk => ?_
        obtain ⟨x, rx, rep⟩ := pick_rep I q1 rr rv (by simpa using hv) hk hm
        exact ⟨x, H, I.kept hk, rx, a _ _ rep .refl⟩
    · cases h2
theorem blt_max1 (hu : X.A.units + 100 < cLine) (hc : X.calm = true) : CallR X (.builtin "max") (rBlt X .max1) := by
  intro pins s σ H vs us Q I r h
  obtain ⟨T, ds, d, dm, hr, hd, a⟩ := h
  obtain ⟨x, rfl, hd⟩ := one_ok hd
  obtain ⟨v, rfl, hx⟩ := hr.one
  obtain ⟨xs, h1, h2⟩ := bind_ok hd
  unfold maxR at h2
  split at h2
  · cases h2
  · rename_i d0 ds'
    split at h2
    · rename_i hz
      cases h2
      obtain ⟨q1, q2, q3⟩ := alikes_iff hz
      obtain ⟨p, ws, rfl, n, c, z, rr⟩ := itemsR_rep h1 hx
      obtain ⟨u, rfl, ru⟩ := vals1 r
      obtain rfl : u = .ref p := ru
      obtain ⟨pa, da⟩ := plainAll_of q1
      rcases c with ⟨rfl, hp⟩ | ⟨rfl, hp⟩
      · obtain ⟨its, rv, pl, _⟩ := I.list (.of hp)
        obtain ⟨as, rd⟩ := RepL.reads I _ _ _ pa rr rv
        refine PySem.W.max_list_data (I.ok.hd hc) pl.isList (by simpa using rd) ⟨fun x hx y hy => q3 x hx y hy, q2⟩ (by omega) fun i v h' tk bs hv hm hk => ?_
        obtain ⟨x, rx, rep⟩ := pick_rep I q1 rr rv (by simpa using hv) hk hm
        exact ⟨x, H, I.kept hk, rx, a _ _ rep .refl⟩
      · obtain ⟨its, rv, pl, _⟩ := I.tuple (.of hp)
        obtain ⟨as, rd⟩ := RepL.reads I _ _ _ pa rr rv
        refine PySem.W.max_tuple_data (I.ok.hd hc) pl (by simpa using rd) ⟨fun x hx y hy => q3 x hx y hy, q2⟩ (by omega) fun i v h' tk bs hv hm hk => ?_
        obtain ⟨x, rx, rep⟩ := pick_rep I q1 rr rv (by simpa using hv) hk hm
        exact ⟨x, H, I.kept hk, rx, a _ _ rep .refl⟩
    · cases h2

theorem each_of {pins : List (Addr × Obj)} {s : Shared} {σ : L2.St} {H : Hp} {T : Addr → Prop} (I : Inv X pins σ H s) : ∀ {xs : List PyData} {ws : List V} {its : List Value}, (∀ d ∈ xs, okD d = true) → RepL T H xs ws → Vals ws its →
    W.EachIs (fun v d => ∃ x, RelV x v ∧ Rep T H d x) its xs ∧ W.EachIs (fun v d => ∃ as, Reads s.heap v d as) its xs
  | [], ws, its, _, r, rv => by
    rw [r.nil_inv] at rv
    cases rv
    exact ⟨.nil, .nil⟩
  | d :: ds, ws, its, h, r, rv => by
    obtain ⟨x, t, rfl, h1, h2⟩ := r.cons_inv
    cases rv with
    | cons r1 r2 =>
      obtain ⟨a, b⟩ := each_of I (fun e he => h e (List.mem_cons_of_mem _ he)) h2 r2
      exact ⟨.cons ⟨x, r1, h1⟩ a, .cons (h1.reads I _ _ _ (okD_iff (h d List.mem_cons_self)).1 r1) b⟩
theorem of_each {H : Hp} {T : Addr → Prop} : ∀ {its : List Value} {xs : List PyData}, W.EachIs (fun v d => ∃ x, RelV x v ∧ Rep T H d x) its xs → ∃ ws, Vals ws its ∧ RepL T H xs ws
  | _, _, .nil => ⟨[], .nil, .nil⟩
  | _, _, .cons ⟨x, r, h⟩ t => by
    obtain ⟨ws, a, b⟩ := of_each t
    exact ⟨x :: ws, .cons r a, .cons h b⟩
theorem sortable_iff {xs : List PyData} (h : sortable xs = true) : alikes xs = true ∧ W.Sortable xs := by
  unfold sortable at h
  rw [Bool.and_eq_true, Bool.or_eq_true, List.all_eq_true, List.all_eq_true] at h
  obtain ⟨a, b⟩ := h
  refine ⟨a, ?_⟩
  obtain ⟨q1, q2, q3⟩ := alikes_iff a
  rcases b with b | b
  · refine .inl fun d hd => ?_
    have := b d hd
    unfold isTup1 at this
    split at this
    · exact ⟨_, _, rfl⟩
    · cases this
  · refine .inr fun d hd => ⟨q2 d hd, fun ys e => ?_⟩
    have := b d hd
    rw [e] at this
    cases this
theorem blt_sorted (hu : X.A.units + 100 < cLine) : CallR X (.builtin "sorted") (rBlt X .sorted) := by
  intro pins s σ H vs us Q I r h
  obtain ⟨T, ds, d, dm, hr, hd, a⟩ := h
  obtain ⟨x, rfl, hd⟩ := one_ok hd
  obtain ⟨v, rfl, hx⟩ := hr.one
  have hd : sortedD x = .ok d := hd
  unfold sortedD at hd
  split at hd
  · rename_i xs _ _
    split at hd
    · rename_i hz
      cases hd
      obtain ⟨al, so⟩ := sortable_iff hz
      obtain ⟨q1, q2, q3⟩ := alikes_iff al
      obtain ⟨p, ws, e, n, hp, z, rr⟩ := hx.list_inv
      subst e
      obtain ⟨u, rfl, ru⟩ := vals1 r
      obtain rfl : u = .ref p := ru
      obtain ⟨its, rv, pl, _⟩ := I.list (.of hp)
      obtain ⟨e1, e2⟩ := each_of I q1 rr rv
      refine W.sorted_data (enc := id) pl.isList e1 e2 (by simpa using q3) (by simpa using so) (by rw [rr.length]; exact z) (fun b hb => ?_) fun out ho ho2 => ?_
      · have := (okD_iff (q1 b hb)).2
        show X.A.units + 2 + b.depth < cLine
        omega
      · obtain ⟨ws', a1, a2⟩ := of_each ho2
        obtain ⟨ep, he'⟩ := PyProof.Rows.sortedAll_at s.heap its out.toArray
        have hlen : ws'.length ≤ sizeLine := by rw [← a2.length, List.length_mergeSort, rr.length]; exact z
        refine ⟨.ref _, upd H (s.heap.objs.size + 1) (.lst ws'), I.laid (t' := s.toks) (fun _ _ => PyProof.Rows.sortedAll_old) (Nat.le_succ _) ⟨hlen, out, ep, a1, he'⟩, rfl, ?_⟩
        exact a.lst dm a2 hlen _ (I.hok.fresh (Nat.le_succ _))
    · cases hd
  · cases hd

/-! ### isinstance -/
def tyName : Ty → String
  | .int => "int" | .bool => "bool" | .str => "str" | .tuple => "tuple" | .list => "list" | .dict => "dict"
def rIsa (X : Cx) (t : Ty) : List V → Hp → VK → Prop := fun vs H Q => ∃ T d x, vs = [x, .ty (tyName t)] ∧ Rep T H d x ∧ Q (.bl (isaD t d)) H
theorem blt_isa (t : Ty) : CallR X (.builtin "isinstance") (rIsa X t) := by
  intro pins s σ H vs us Q I r h
  obtain ⟨T, d, x, rfl, hx, q⟩ := h
  have go : ∀ {n : String}, TyX X.K H x (.type n) → kitB n (tyName t) = some (isaD t d) → wpAny (model X.prog X.w) X.A (call (.builtin "isinstance") us) (EP X pins σ Q) X.xe s := fun {n} ty k =>
    call_isi pins s σ H _ us Q I r ⟨x, _, _, _, _, rfl, .ty _, ty, kit_ty k, q⟩
  match d, hx with
  | .none, hx => rw [hx.none_inv] at *; exact go (.base .non) (by cases t <;> decide +kernel)
  | .bool b, hx => rw [hx.bool_inv] at *; exact go (.base (.bl b)) (by cases t <;> rfl)
  | .int b, hx => rw [hx.int_inv] at *; exact go (.base (.int b)) (by cases t <;> rfl)
  | .str b, hx => rw [hx.str_inv.1] at *; exact go (.base (.str b)) (by cases t <;> rfl)
  | .list b, hx => obtain ⟨p, xs, e, n, hp, z, rr⟩ := hx.list_inv; subst e; exact go (.base (.lst hp)) (by cases t <;> rfl)
  | .tuple b, hx => obtain ⟨p, xs, e, n, hp, z, rr⟩ := hx.tuple_inv; subst e; exact go (.base (.tup hp)) (by cases t <;> rfl)
  | .dict b, hx =>
    obtain ⟨p, e, n, hp⟩ := hx.dict_inv; subst e
    have k : kitB "dict" (tyName t) = some (isaD t (.dict b)) := by cases t <;> rfl
    rcases hp with ⟨ks, hp | ⟨o, hp⟩, rr⟩ | ⟨ks, hp | ⟨o, hp⟩, rr⟩
    · exact go (.base (.dK hp)) k
    · exact go (.fDict hp) k
    · exact go (.base (.dT hp)) k
    · obtain ⟨u1, u2, rfl, r1, r2⟩ := vals2 r
      obtain rfl : u1 = .ref p := r1
      obtain rfl : u2 = .type (tyName t) := r2
      obtain ⟨_, _, xs, _, o', es, ep, h1, h2, _⟩ := (show ObjOk X.prog X.w H s.heap p (.frz o (.dT ks)) from I.hok p _ hp).2
      exact PySem.W.kia_one PySem.W.kitx_dict I.kIn ⟨o', h1, h2.1⟩ (kit_ty (K := X.K) k) (fun z => nomatch z) fun tk => ⟨.bl _, H, I.tok tk, rfl, q⟩
end
end Mir

set_option Elab.async false
set_option linter.all false
set_option maxRecDepth 100000
set_option maxHeartbeats 4000000
/-! Mir, part E1: list(reversed(x)), dict(pairs), len(set(x)), text.index(x). -/
namespace Mir
open PySem PySem.Spec PyProof.Rows L2 RT

section
variable {prog : Program} {w : World} {A : Around} {E : Value → Shared → Prop} {s : Shared}
theorem extend_rev {R : Result → Shared → Prop} {it l : Addr} {items : Array Value} (hh : A.handled = none) (hit : s.heap.IsRevIter it l ((items.size : Int) - 1)) (hl : s.heap.IsList l items) (hne : l ≠ it) (hn : items.size ≤ sizeLine) (S : Addr) (res : Value) (c₀ : Nat) (hS : s.heap.get? S = some { cls := .type "list", data := .seq #[] c₀ }) (hSi : S ≠ it) (hSl : S ≠ l)
    (hR : ∀ h' tk acc' c', (∀ b o, b ≠ S → b ≠ it → s.heap.get? b = some o → h'.get? b = some o) → h'.get? S = some { cls := .type "list", dict := none, data := .seq acc' c', slots := #[] } →
      ItemsOf (fun i v => items[items.size - 1 - i]? = some v) acc' items.size → R (.ok (.ret res)) { s with heap := h', toks := tk }) :
    wpAny (model prog w) A.in1 (Builtin.List.listExtendWith (.ref S) (.ref it) res)
      (fun fin s' => match fin with | .done f => R (.ok f) s' | .again c' => c'.quiet = true ∧ codeAny (model prog w) A c' R s') (fun e s' => R (.error e) s') s := by
  have W := (Walks.listRev (prog := prog) (w := w) (A := A.in1) hh it l hne items).toS
  have hSf : S ∉ [it, l] := by simp only [List.mem_cons, List.not_mem_nil, or_false, not_or]; exact ⟨hSi, hSl⟩
  have hT : s.TypeIs (.ref it) "list_reverseiterator" := hit.typeIs
  have h1 : Builtin.List.listSameRef (.ref S) (.ref it) = false := by simp [Builtin.List.listSameRef, hSi]
  unfold Builtin.List.listExtendWith
  refine wpAny_bind (wpAny_typeOf hT ?_)
  rw [if_neg (by rw [h1]; decide)]
  refine wpAny_bind (wpAny_pyIter_revIter hit ?_)
  refine wpAny_bind (wpAny_holding ?_)
  unfold Builtin.List.listLengthHint
  refine wpAny_bind (wpAny_specialOf hT nolen_lri ?_)
  show wpAny _ A.in1 (specialOf (Value.ref it) (Str.ofString "__length_hint__") >>= _) _ _ _
  refine wpAny_bind (wpAny_specialOf hT hint_lri ?_)
  generalize hid : ("list_reverseiterator.__length_hint__" : String) = id0
  wp_delta
  rw [show splitId id0 = some ("list_reverseiterator", "__length_hint__") from by subst hid; decide +kernel]
  subst hid
  refine wpAny_bind (wpAny_isInstance (b := true) hT (by rw [isSubtype_type]; kernel_rfl) ?_)
  refine wpAny_pure ?_
  rw [if_neg (by decide)]
  have e0 : ((items.size : Nat) : Int) - 1 - ((0 : Nat) : Int) = (items.size : Int) - 1 := by omega
  refine wpAny_pure ⟨plainId_quiet F.plain_extend_loop _, codeAny_extend_loopS W hn _ hSf _ items.size 0 _ _ _ rfl (Nat.zero_le _) ⟨Nat.zero_le _, by rw [e0]; exact hit, hl⟩ hS (ItemsOf.nil _) fun s' acc' c' hm hS' hacc => ?_⟩
  rw [Moved.eq_with hm]
  refine hR s'.heap s'.toks acc' c' (fun b o hb hb2 e => hm.heap b o (fun hmem => ?_) e) hS' hacc
  rcases List.mem_cons.mp hmem with e' | hmem
  · exact hb e'
  · exact hb2 (List.mem_singleton.mp hmem)
theorem call_list_rev {Q : Value → Shared → Prop} {it l : Addr} {items : Array Value} (hh : A.handled = none) (hit : s.heap.IsRevIter it l ((items.size : Int) - 1)) (hl : s.heap.IsList l items) (hne : l ≠ it) (hn : items.size ≤ sizeLine)
    (hQ : ∀ h' tk acc' c', (∀ b o, b ≠ it → s.heap.get? b = some o → h'.get? b = some o) →
      h'.get? s.heap.objs.size = some { cls := .type "list", dict := none, data := .seq acc' c', slots := #[] } → ItemsOf (fun i v => items[items.size - 1 - i]? = some v) acc' items.size → Q (.ref s.heap.objs.size) { s with heap := h', toks := tk }) :
    wpAny (model prog w) A (call (.type "list") [.ref it]) Q E s := by
  obtain ⟨oi, hoi, _⟩ := id hit
  obtain ⟨ol, hol, _⟩ := id hl
  have hSi : s.heap.objs.size ≠ it := Nat.ne_of_gt (Heap.lt_size hoi)
  have hSl : s.heap.objs.size ≠ l := Nat.ne_of_gt (Heap.lt_size hol)
  refine callType_codes (Q₁ := fun obj s₁ => obj = .ref s.heap.objs.size ∧ s₁ = { s with heap := s.heap.push { cls := .type "list", data := .seq #[] } }) F.called_list (F.typeCall_list_1 _) F.entry_list_init
    (code_list_new _ ⟨rfl, rfl⟩) fun obj s₁ h₁ => ?_
  obtain ⟨rfl, rfl⟩ := h₁
  have hS : (s.heap.push { cls := .type "list", data := .seq #[] }).get? s.heap.objs.size = some { cls := .type "list", data := .seq #[] } := Heap.get?_push_size _ rfl
  refine ⟨⟨_, hS, rfl⟩, F.args_list_init_2 _ _, ?_⟩
  show wpAny _ _ (do let old ← Builtin.List.listItems (.ref s.heap.objs.size); Builtin.List.listUpdate (.ref s.heap.objs.size) (fun _ => #[]); letGo old.toList.reverse; Builtin.List.listExtendWith (.ref s.heap.objs.size) (.ref it) .none) _ _ _
  refine wpAny_bind ?_
  unfold Builtin.List.listItems
  refine wpAny_bind (wpAny_seqItems hS rfl (wpAny_pure ?_))
  show wpAny _ _ (updateSeq s.heap.objs.size (fun _ => #[]) >>= fun _ => letGo (#[] : Array Value).toList.reverse >>= fun _ => Builtin.List.listExtendWith (.ref s.heap.objs.size) (.ref it) .none) _ _ _
  refine wpAny_bind (wpAny_updateSeq hS rfl ?_)
  have hS₂ := Heap.get?_update_self (Obj.mapSeq (fun _ => (#[] : Array Value))) hS rfl
  have oth : ∀ b o, b ≠ s.heap.objs.size → s.heap.get? b = some o → ((s.heap.push { cls := .type "list", data := .seq #[] }).update s.heap.objs.size (Obj.mapSeq (fun _ => (#[] : Array Value)))).get? b = some o :=
    fun b o hb e => (Heap.get?_update_other _ _ (Ne.symm hb)).trans (Heap.get?_push_of_some _ e)
  refine wpAny_bind (wpAny_letGo ?_)
  have hR := extend_rev (s := { s with heap := (s.heap.push { cls := .type "list", data := .seq #[] }).update s.heap.objs.size (Obj.mapSeq (fun _ => (#[] : Array Value))) }) (A := A.in1) (prog := prog) (w := w) (R := wants (fun r s₂ => r = .none ∧ Q (.ref s.heap.objs.size) s₂) E)
    hh (hit.at fun o e => oth it o (Ne.symm hSi) e) ?hl hne hn s.heap.objs.size .none _ hS₂ hSi hSl fun h' tk acc' c' hk hS' hacc => ⟨rfl, hQ h' tk acc' c' (fun b o hb e => hk b o (Nat.ne_of_lt (Heap.lt_size e)) hb (oth b o (Nat.ne_of_lt (Heap.lt_size e)) e)) hS' hacc⟩
  · exact hR
  · obtain ⟨o, ho, c, n, d⟩ := hl
    exact ⟨o, oth l o (Ne.symm hSl) ho, c, n, d⟩
end
section
variable {X : Cx}
def tListRev (K : PySem.W.Frag) (te : TE) : TE := fun σ H Q => te σ H fun v H1 => ∃ (a : Addr) (xs : List V), v = .ref a ∧ SqL K H1 a xs ∧ ∀ q, H1 q = none → Q (.ref q) (upd H1 q (.lst xs.reverse))
theorem pe_listRev {e : Expr} {te : TE} {p p2 pos pos2 : Pos} (hc : X.calm = true) (hg : Gl X "list") (hm : X.mg "list" = none) (hg2 : Gl X "reversed") (hm2 : X.mg "reversed" = none) (he : PE X e te)
    (hs : starEach [e] X.env = (false, eval e X.env) :: starEach [] X.env)
    (hs2 : starEach [.Call (.Name "reversed" p2) [e] [] pos2] X.env = (false, eval (.Call (.Name "reversed" p2) [e] [] pos2) X.env) :: starEach [] X.env := by rfl) :
    PE X (.Call (.Name "list" p) [.Call (.Name "reversed" p2) [e] [] pos2] [] pos) (tListRev X.K te) := by
  refine ⟨fun pins s σ H Q I h => ?_⟩
  refine Call_ (ld_blt I hg hm (by decide +kernel : bootBuiltins ("list" : Str) = some (.type "list")) (PyProof.Rows.callWith_type1 (args_cons (Call_ (ld_blt I hg2 hm2 PyProof.Rows.boot_reversed (PyProof.Rows.callWith_type1 (args_cons (thn (he.run pins s σ H _ I h) fun u s1 ⟨v, H1, I1, r1, q1⟩ => args_nil ?_) hs) hs rfl))) hs2) hs2 rfl))
  obtain ⟨a, xs, ev, hq, q⟩ := q1
  subst ev
  obtain rfl : u = Value.ref a := r1
  obtain ⟨its, rv, p', hz⟩ := I1.list hq
  refine call_reversed_list p'.isList (args_nil ?_)
  have k0 : ∀ b o, s1.heap.get? b = some o → (s1.heap.push (revObj a ((its.toArray.size : Int) - 1))).get? b = some o := fun b o e => Heap.get?_push_of_some _ e
  have I2 : Inv X pins σ H1 { s1 with heap := s1.heap.push (revObj a ((its.toArray.size : Int) - 1)) } := I1.kept (t' := s1.toks) k0
  obtain ⟨f0, f1, f2, f3, f4, f5⟩ := I1.fpOk (H' := H1) (b := s1.heap.objs.size) (Nat.le_refl _) (I1.hok.fresh (Nat.le_refl _))
  have hl := p'.isList
  obtain ⟨ol, hol, _⟩ := id hl
  have hne : a ≠ s1.heap.objs.size := Nat.ne_of_lt (Heap.lt_size hol)
  have hn : its.toArray.size ≤ sizeLine := by rw [List.size_toArray, ← rv.length]; exact hz
  refine call_list_rev (s := { s1 with heap := s1.heap.push (revObj a ((its.toArray.size : Int) - 1)) }) (I1.ok.hd hc) ⟨_, Heap.get?_push_size _ rfl, rfl, rfl⟩ (hl.push _) hne hn fun h' tk acc c' hk hS hi => ?_
  have hS' : (s1.heap.push (revObj a ((its.toArray.size : Int) - 1))).objs.size = s1.heap.objs.size + 1 := Heap.size_push _ _
  have I3 : Inv X pins σ (upd H1 (s1.heap.push (revObj a ((its.toArray.size : Int) - 1))).objs.size (.lst xs.reverse)) { s1 with heap := (s1.heap.push (revObj a ((its.toArray.size : Int) - 1))).push { cls := .type "list", dict := none, data := .seq acc c', slots := #[] } } :=
    I2.laid (t' := s1.toks) (fun b o e => Heap.get?_push_of_some _ e) (Nat.le_refl _) ⟨by rw [List.length_reverse]; exact hz, acc.toList, c', vals_rev rv hi, by rw [Array.toArray_toList]; exact Heap.get?_push_size _ rfl⟩
  have fr : H1 (s1.heap.push (revObj a ((its.toArray.size : Int) - 1))).objs.size = none := I1.hok.fresh (by rw [hS']; omega)
  have I4 := I3.turned (it := s1.heap.objs.size) (h' := h') (t' := tk) (fun b o hb e => ?_) ?_ f1 f3 f4 f5
  · exact ⟨.ref _, _, I4, rfl, q _ fr⟩
  · rcases Heap.get?_push_cases e with ⟨rfl, rfl⟩ | e
    · exact hS
    · exact hk b o hb e
  · rw [upd_ne (fun z => Nat.succ_ne_self _ (Eq.trans z hS').symm)]; exact f0
end
/-! ### dicts are written -/
theorem RepK.any {T : Addr → Prop} {H : Hp} (k : Key) : ∀ {kvs : List (PyData × PyData)} {ks : List (Key × V)}, RepK T H kvs ks → (kvs.any fun p => p.1.eqv (kD k)) = ks.any fun kv => decide (kv.1 = k)
  | [], ks, h => by
    have e : ks = [] := by simpa [RepK] using h
    subst e; rfl
  | (k0, d) :: r, ks, h => by
    obtain ⟨kk, x, t, e, e2, h1, h2⟩ := by simpa only [RepK] using h
    subst e e2
    rw [List.any_cons, List.any_cons, kD_eqv, RepK.any k h2]
theorem RepK.map {T : Addr → Prop} {H : Hp} (k : Key) {y : PyData} {v : V} (q : Rep T H y v) : ∀ {kvs : List (PyData × PyData)} {ks : List (Key × V)}, RepK T H kvs ks → RepK T H (kvs.map fun p => if p.1.eqv (kD k) = true then (p.1, y) else p) (ks.map fun kv => if kv.1 = k then (kv.1, v) else kv)
  | [], ks, h => by
    have e : ks = [] := by simpa [RepK] using h
    subst e; simp [RepK]
  | (k0, d) :: r, ks, h => by
    obtain ⟨kk, x, t, e, e2, h1, h2⟩ := by simpa only [RepK] using h
    subst e e2
    rw [List.map_cons, List.map_cons]
    have := RepK.map k q h2
    simp only [kD_eqv]
    by_cases z : kk = k
    · rw [if_pos (by simpa using z), if_pos z]
      simp only [RepK]; exact ⟨_, _, _, rfl, rfl, q, this⟩
    · rw [if_neg (by simpa using z), if_neg z]
      simp only [RepK]; exact ⟨_, _, _, rfl, rfl, h1, this⟩
theorem RepK.append {T : Addr → Prop} {H : Hp} {k : Key} {y : PyData} {v : V} (q : Rep T H y v) : ∀ {kvs : List (PyData × PyData)} {ks : List (Key × V)}, RepK T H kvs ks → RepK T H (kvs ++ [(kD k, y)]) (ks ++ [(k, v)])
  | [], ks, h => by
    have e : ks = [] := by simpa [RepK] using h
    subst e
    simp only [List.nil_append, RepK]
    exact ⟨_, _, _, rfl, rfl, q, rfl⟩
  | (k0, d) :: r, ks, h => by
    obtain ⟨kk, x, t, e, e2, h1, h2⟩ := by simpa only [RepK] using h
    subst e e2
    simp only [List.cons_append, RepK]
    exact ⟨_, _, _, rfl, rfl, h1, RepK.append q h2⟩
theorem RepK.put {T : Addr → Prop} {H : Hp} {k : Key} {y : PyData} {v : V} {kvs : List (PyData × PyData)} {ks : List (Key × V)} (r : RepK T H kvs ks) (q : Rep T H y v) : RepK T H (putD kvs (kD k) y) (putK ks k v) := by
  unfold putD putK
  rw [r.any k]
  split
  · exact r.map k q
  · exact r.append q
theorem RepT.any {T : Addr → Prop} {H : Hp} (k : List Key) : ∀ {kvs : List (PyData × PyData)} {ks : List (List Key × V)}, RepT T H kvs ks → (kvs.any fun p => p.1.eqv (.tuple (k.map kD))) = ks.any fun kv => decide (kv.1 = k)
  | [], ks, h => by
    have e : ks = [] := by simpa [RepT] using h
    subst e; rfl
  | (k0, d) :: r, ks, h => by
    obtain ⟨kk, x, t, e, e2, h1, h2⟩ := by simpa only [RepT] using h
    subst e e2
    have q0 : PyData.eqv (.tuple (kk.map kD)) (.tuple (k.map kD)) = decide (kk = k) := kDs_eqv kk k
    rw [List.any_cons, List.any_cons, q0, RepT.any k h2]
theorem RepT.map {T : Addr → Prop} {H : Hp} (k : List Key) {y : PyData} {v : V} (q : Rep T H y v) : ∀ {kvs : List (PyData × PyData)} {ks : List (List Key × V)}, RepT T H kvs ks → RepT T H (kvs.map fun p => if p.1.eqv (.tuple (k.map kD)) = true then (p.1, y) else p) (ks.map fun kv => if kv.1 = k then (kv.1, v) else kv)
  | [], ks, h => by
    have e : ks = [] := by simpa [RepT] using h
    subst e; simp [RepT]
  | (k0, d) :: r, ks, h => by
    obtain ⟨kk, x, t, e, e2, h1, h2⟩ := by simpa only [RepT] using h
    subst e e2
    have q0 : PyData.eqv (.tuple (kk.map kD)) (.tuple (k.map kD)) = decide (kk = k) := kDs_eqv kk k
    rw [List.map_cons, List.map_cons]
    have := RepT.map k q h2
    simp only [q0]
    by_cases z : kk = k
    · rw [if_pos (by simpa using z), if_pos z]
      simp only [RepT]; exact ⟨_, _, _, rfl, rfl, q, this⟩
    · rw [if_neg (by simpa using z), if_neg z]
      simp only [RepT]; exact ⟨_, _, _, rfl, rfl, h1, this⟩
theorem RepT.append {T : Addr → Prop} {H : Hp} {k : List Key} {y : PyData} {v : V} (q : Rep T H y v) : ∀ {kvs : List (PyData × PyData)} {ks : List (List Key × V)}, RepT T H kvs ks → RepT T H (kvs ++ [(.tuple (k.map kD), y)]) (ks ++ [(k, v)])
  | [], ks, h => by
    have e : ks = [] := by simpa [RepT] using h
    subst e
    simp only [List.nil_append, RepT]
    exact ⟨_, _, _, rfl, rfl, q, rfl⟩
  | (k0, d) :: r, ks, h => by
    obtain ⟨kk, x, t, e, e2, h1, h2⟩ := by simpa only [RepT] using h
    subst e e2
    simp only [List.cons_append, RepT]
    exact ⟨_, _, _, rfl, rfl, h1, RepT.append q h2⟩
theorem RepT.put {T : Addr → Prop} {H : Hp} {k : List Key} {y : PyData} {v : V} {kvs : List (PyData × PyData)} {ks : List (List Key × V)} (r : RepT T H kvs ks) (q : Rep T H y v) : RepT T H (putD kvs (.tuple (k.map kD)) y) (putK ks k v) := by
  unfold putD putK
  rw [r.any k]
  split
  · exact r.map k q
  · exact r.append q
/-- a fresh value's outcome -/
abbrev AnsF (T : Addr → Prop) (d : PyData) (Q : VK) (H : Hp) : Prop := ∀ p H', H p = none → Own1 (fun b => T b ∨ b = p) H' d p → Ext NoT H H' → Q (.ref p) H'
theorem mvP {T : Addr → Prop} {H : Hp} {p : Addr} {o : HO} (h : H p = none) : Mv T (fun b => T b ∨ b = p) H (upd H p o) :=
  ⟨fun a u n ha t => t.elim n fun z => (by rw [z, h] at ha; cases ha), fun a u n ha => by rw [upd_ne (ne_of_none ha h)]; exact ha⟩
theorem AnsF.lst {T : Addr → Prop} {ds : List PyData} {xs : List V} {Q : VK} {H : Hp} (a : AnsF T (.list ds) Q H) (r : RepL T H ds xs) (z : xs.length ≤ sizeLine) (p : Addr) (h : H p = none) : Q (.ref p) (upd H p (.lst xs)) :=
  a p _ h ⟨xs, upd_same, z, RepL.mv (mvP h) _ _ r⟩ (Ext.laid h)

/-! ### forms of one part -/
def fr1 : O1 → Bool
  | .rev => true
  | .dictOf => true
  | _ => false
def ansOf (X : Cx) (fr : Bool) (T : Addr → Prop) (d : PyData) (Q : VK) (H : Hp) : Prop := if fr = true then AnsF T d Q H else Ans X T d Q H
theorem Ans.f {X : Cx} {T : Addr → Prop} {d : PyData} {Q : VK} {H : Hp} (a : Ans X T d Q H) (dm : Dom T H) : AnsF T d Q H := fun p H' hp o e => a _ H' (o.rep (fun b => .inl) (dm p hp)) e
theorem Ans.of {X : Cx} {fr : Bool} {T : Addr → Prop} {d : PyData} {Q : VK} {H : Hp} (a : Ans X T d Q H) (dm : Dom T H) : ansOf X fr T d Q H := by
  unfold ansOf
  split
  · exact a.f dm
  · exact a
def tOp1 (X : Cx) (f : O1) (te : TE) : TE := fun σ H Q => te σ H fun v H1 => ∃ T x d, Dom T H1 ∧ Rep T H1 x v ∧ op1D f x = .ok d ∧ ansOf X (fr1 f) T d Q H1
theorem pairsD_rep {T : Addr → Prop} {H : Hp} {K : PySem.W.Frag} : ∀ {ds : List PyData} {xs : List V} {l : List (PyData × PyData)}, pairsD ds = some l → RepL T H ds xs → ∃ (ps : List Addr) (kvs : List (Key × V)), xs = ps.map V.ref ∧ Paired (fun p kv => SqT K H p [kV kv.1, kv.2]) ps kvs ∧ RepK T H l kvs ∧ kvs.length = ds.length
  | [], xs, l, h, r => by
    cases h
    rw [r.nil_inv]
    exact ⟨[], [], rfl, .nil, by simp [RepK], rfl⟩
  | d0 :: ds, xs, l, h, r => by
    obtain ⟨x, t, rfl, h1, h2⟩ := r.cons_inv
    unfold pairsD at h
    split at h
    · rename_i e; cases e
    · rename_i kd vd rr e
      cases e
      split at h
      · rename_i hk
        cases q : pairsD ds with
        | none => rw [q] at h; cases h
        | some l' =>
          rw [q] at h
          cases h
          obtain ⟨ps, kvs, rfl, hp, hr, hl⟩ := pairsD_rep q h2
          obtain ⟨a, ws, rfl, _, ha, _, rw'⟩ := h1.tuple_inv
          obtain ⟨w1, t1, rfl, r1, rw2⟩ := rw'.cons_inv
          obtain ⟨w2, t2, rfl, r2, rw3⟩ := rw2.cons_inv
          have : t2 = [] := rw3.nil_inv
          subst this
          have hkd : ∃ kk : Key, kd = kD kk ∧ w1 = kV kk := by
            cases kd with
            | int i => exact ⟨.inl i, rfl, r1.int_inv⟩
            | str i => exact ⟨.inr i, rfl, r1.str_inv.1⟩
            | _ => cases hk
          obtain ⟨kk, rfl, rfl⟩ := hkd
          refine ⟨a :: ps, (kk, w2) :: kvs, rfl, .cons (.of ha) hp, ?_, by simp [hl]⟩
          simp only [RepK]
          exact ⟨kk, w2, kvs, rfl, rfl, r2, hr⟩
      · cases h
    · cases h
theorem RepK.merge {T : Addr → Prop} {H : Hp} : ∀ {l : List (PyData × PyData)} {kvs : List (Key × V)} {l0 : List (PyData × PyData)} {ks : List (Key × V)}, RepK T H l kvs → RepK T H l0 ks → RepK T H (mergeD l0 l) (mergeK ks kvs)
  | [], kvs, l0, ks, h, q => by
    have e : kvs = [] := by simpa [RepK] using h
    subst e; exact q
  | (k0, d) :: r, kvs, l0, ks, h, q => by
    obtain ⟨kk, x, t, e, e2, h1, h2⟩ := by simpa only [RepK] using h
    subst e e2
    show RepK T H (mergeD (putD l0 (kD kk) d) r) (mergeK (putK ks kk x) t)
    exact RepK.merge h2 (q.put h1)
theorem op1_dictOf {X : Cx} (hc : X.calm = true) : CallR X (.type "dict") (fun vs H Q => ∃ T x v d, vs = [v] ∧ Dom T H ∧ Rep T H x v ∧ op1D .dictOf x = .ok d ∧ AnsF T d Q H) := by
  intro pins s σ H vs us Q I r h
  obtain ⟨T, x, v, d, rfl, dm, hx, hd, a⟩ := h
  unfold op1D at hd
  split at hd
  · rename_i h; cases h
  · rename_i ds h
    split at hd
    · rename_i l hl
      cases hd
      obtain ⟨p, xs, rfl, n, hp, z, rr⟩ := hx.list_inv
      obtain ⟨ps, kvs, rfl, hps, hr, hlen⟩ := pairsD_rep (K := X.K) hl rr
      refine call_dictP hc pins s σ H _ us Q I r ⟨p, ps, kvs, rfl, .of hp, hps, fun q hq => a q _ hq (.inl ⟨_, upd_same, ?_⟩) (Ext.laid hq)⟩
      exact RepK.mv (mvP hq) _ _ (RepK.merge hr (by simp [RepK]))
    · cases hd
  · rename_i h; cases h
  · cases hd
/-! ### text.index(x) -/
def tOp2 (X : Cx) (f : O2) (ta tb : TE) : TE := fun σ H Q => ta σ H fun v H1 => (∃ T x, Rep T H1 x v ∧ ok2 f x = true) ∧ tb σ H1 fun u H2 => rD2 X (op2D f) v u H2 Q
theorem RepL.reverse {T : Addr → Prop} {H : Hp} : ∀ {ds : List PyData} {xs : List V}, RepL T H ds xs → RepL T H ds.reverse xs.reverse
  | [], xs, h => by rw [h.nil_inv]; exact .nil
  | d :: ds, xs, h => by
    obtain ⟨y, ys, rfl, h1, h2⟩ := h.cons_inv
    rw [List.reverse_cons, List.reverse_cons]
    exact (RepL.reverse h2).append (.cons h1 .nil)
theorem op2_sindex {X : Cx} : MtR X "str.index" (fun x xs H Q => ∃ u, xs = [u] ∧ rD2 X (op2D .sindex) x u H Q) := by
  intro pins s σ H x xs v us Q I rx rs h
  obtain ⟨u, rfl, T, dx, dy, d, dm, hx, hy, hd, a⟩ := h
  unfold op2D at hd
  split at hd
  · rename_i a' b' h
    split at hd
    · rename_i i rest ho
      cases hd
      exact mt_sindex pins s σ H x [u] v us Q I rx rs ⟨a', b', i, rest, hx.str_inv.1, by rw [hy.str_inv.1], ho, a _ _ .mkInt .refl⟩
    · cases hd
  · rename_i h; cases h
  · rename_i h; cases h
  · cases hd

theorem find_at : ∀ (ns : List Int) (i : Int) (j : Nat), ns.findIdx? (fun n => decide (n = i)) = some j → ns[j]? = some i ∧ ∀ m z, m < j → ns[m]? = some z → z ≠ i
  | [], i, j, h => by cases h
  | n :: ns, i, j, h => by
    rw [List.findIdx?_cons] at h
    by_cases e : n = i
    · simp only [e, decide_true, if_true, Option.some.injEq] at h
      subst h
      exact ⟨by rw [e]; rfl, fun m z hm => absurd hm (Nat.not_lt_zero _)⟩
    · simp only [e, decide_false, Bool.false_eq_true, if_false] at h
      obtain ⟨k, hk, rfl⟩ := Option.map_eq_some_iff.mp h
      obtain ⟨h1, h2⟩ := find_at ns i k hk
      refine ⟨h1, fun m z hm hz => ?_⟩
      cases m with
      | zero => cases hz; exact e
      | succ m => exact h2 m z (by omega) hz
theorem op2_lindex {X : Cx} : MtR X "list.index" (fun x xs H Q => ∃ u, xs = [u] ∧ rD2 X (op2D .lindex) x u H Q) := by
  intro pins s σ H x xs v us Q I rx rs h
  obtain ⟨u, rfl, T, dx, dy, d, dm, hx, hy, hd, a⟩ := h
  unfold op2D at hd
  split at hd
  · rename_i h; cases h
  · rename_i xs i h
    split at hd
    · rename_i ns hns
      split at hd
      · rename_i j hj
        cases hd
        have e := allInts_some hns
        subst e
        obtain ⟨p, vs, e1, n, hp, z, r⟩ := hx.list_inv
        have ev : vs = ns.map V.int := by
          have : ∀ (ns : List Int) (vs : List V), RepL T H (ns.map PyData.int) vs → vs = ns.map V.int := by
            intro ns
            induction ns with
            | nil => intro vs h; exact h.nil_inv
            | cons m ns ih =>
              intro vs h
              obtain ⟨y, ys, rfl, h1, h2⟩ := h.cons_inv
              rw [h1.int_inv, ih ys h2]; rfl
          exact this ns vs r
        subst ev
        obtain ⟨f1, f2⟩ := find_at ns i j hj
        rw [e1] at rx
        rw [hy.int_inv] at rs
        refine mt_index pins s σ H _ [_] v us Q I rx rs ⟨p, ns.map V.int, .int i, j, .int i, rfl, rfl, .of hp, rfl, ?_, by rw [List.getElem?_map, f1]; rfl, ?_, fun m z' hm hz => ?_, a _ _ .mkInt .refl⟩
        · simp [flatV]
        · show (i == i) = true
          simp
        · rw [List.getElem?_map] at hz
          obtain ⟨w, hw, rfl⟩ := Option.map_eq_some_iff.mp hz
          show (w == i) = false
          rw [beq_eq_false_iff_ne]
          exact f2 m w hm hw
      · cases hd
    · cases hd
  · rename_i h; cases h
  · cases hd

/-! ### a dict of the module, of numbers -/
def entI (e : DictEntry) (p : Int × Int) : Bool := (match e.key with
  | .int k _ => decide (k = p.1)
  | _ => false) && ((match e.val with
  | .int v _ => decide (v = p.2)
  | _ => false) && decide (e.hash = hashInt p.1))
def entsI : List DictEntry → List (Int × Int) → Bool
  | [], [] => true
  | e :: es, p :: ps => entI e p && entsI es ps
  | _, _ => false
def distinctI : List (Int × Int) → Bool
  | [] => true
  | p :: ps => ps.all (fun q => decide (q.1 ≠ p.1)) && distinctI ps
def kdiB (K : PySem.W.Frag) (a : Addr) (kvs : List (Int × Int)) : Bool := match K.lookup a with
  | some ⟨.type c, none, .dict es _, sl⟩ => decide (c = "dict") && (decide (sl.size = 0) && (entsI es.toList kvs && distinctI kvs))
  | _ => false
theorem entsI_ok {P : Program} {w : World} : ∀ {es : List DictEntry} {kvs : List (Int × Int)}, entsI es kvs = true → ∃ vs : List (Key × Value), Pairs (mixKind P w) es vs ∧ (∀ e ∈ es, ∃ k, (mixKind P w).is k e.key = true ∧ e.hash = (mixKind P w).hash k) ∧ vs.map (·.1) = kvs.map (fun p => Sum.inl p.1) ∧
    ∀ k : Int, ∀ p, kvs.find? (fun p => decide (p.1 = k)) = some p → ∃ t, valueAt vs (Sum.inl k) = some (.int p.2 t)
  | [], [], _ => ⟨[], .nil, fun _ h => (nomatch h), rfl, fun k p h => (nomatch h)⟩
  | [], _ :: _, h => nomatch h
  | _ :: _, [], h => nomatch h
  | e :: es, q :: kvs, h => by
    simp only [entsI, Bool.and_eq_true] at h
    obtain ⟨h1, h2⟩ := h
    obtain ⟨vs, a1, a2, a3, a4⟩ := entsI_ok (P := P) (w := w) h2
    unfold entI at h1
    simp only [Bool.and_eq_true, decide_eq_true_eq] at h1
    obtain ⟨b1, b2, b3⟩ := h1
    obtain ⟨hh, ek, evl⟩ := e
    cases ek with
    | int kk tk =>
      have b1' : kk = q.1 := by simpa using b1
      cases evl with
      | int vv tv =>
        have b2' : vv = q.2 := by simpa using b2
        subst b1' b2'
        have b3 : hh = hashInt q.1 := b3
        refine ⟨(Sum.inl q.1, .int q.2 tv) :: vs, .cons (mixKind_int P w _ _) rfl a1, fun e' he' => ?_, by simp [a3], fun k p hp => ?_⟩
        · rcases List.mem_cons.mp he' with rfl | he'
          · exact ⟨Sum.inl q.1, mixKind_int P w _ _, b3⟩
          · exact a2 e' he'
        · rw [List.find?_cons] at hp
          by_cases hk : q.1 = k
          · rw [decide_eq_true hk] at hp
            cases hp
            subst hk
            exact ⟨tv, by simp [valueAt]⟩
          · rw [decide_eq_false hk] at hp
            obtain ⟨t, ht⟩ := a4 k p hp
            refine ⟨t, ?_⟩
            unfold valueAt at ht ⊢
            rw [List.find?_cons]
            have : decide ((Sum.inl q.1 : Key) = Sum.inl k) = false := decide_eq_false fun z => hk (Sum.inl.inj z)
            rw [this]
            exact ht
      | _ => cases b2
    | _ => cases b1
theorem distinctI_ok : ∀ {kvs : List (Int × Int)}, distinctI kvs = true → (kvs.map (fun p => (Sum.inl p.1 : Key))).Nodup
  | [], _ => .nil
  | p :: ps, h => by
    simp only [distinctI, Bool.and_eq_true, List.all_eq_true, decide_eq_true_eq] at h
    rw [List.map_cons]
    refine List.nodup_cons.mpr ⟨fun z => ?_, distinctI_ok h.2⟩
    obtain ⟨q, hq, e⟩ := List.mem_map.mp z
    exact h.1 q hq (Sum.inl.inj e)
theorem kdiB_ok {K : PySem.W.Frag} {a : Addr} {kvs : List (Int × Int)} (h : kdiB K a kvs = true) {P : Program} {w : World} {hp : Heap} (X : K.In hp) : ∃ vs : List (Key × Value), hp.DictOf (mixKind P w) a vs ∧ ∀ k : Int, ∀ p, kvs.find? (fun p => decide (p.1 = k)) = some p → ∃ t, valueAt vs (Sum.inl k) = some (.int p.2 t) := by
  unfold kdiB at h
  split at h
  · rename_i c es n sl hl
    simp only [Bool.and_eq_true, decide_eq_true_eq] at h
    obtain ⟨rfl, h2, h3, h4⟩ := h
    obtain ⟨vs, a1, a2, a3, a4⟩ := entsI_ok (P := P) (w := w) h3
    refine ⟨vs, ⟨_, es, n, X _ _ hl, ⟨rfl, rfl, Array.eq_empty_of_size_eq_zero h2⟩, rfl, fun e he => a2 e (by simpa using he), a1, by rw [a3]; exact distinctI_ok h4⟩, a4⟩
  · cases h
def rIxI (X : Cx) (kvs : List (Int × Int)) : R2 := fun x y H Q => ∃ a T d r, x = .ref a ∧ kdiB X.K a kvs = true ∧ Rep T H d y ∧ subGD kvs d = .ok r ∧ Ans X T r Q H
theorem ix_kdi {X : Cx} {kvs : List (Int × Int)} : IxR X (rIxI X kvs) := by
  intro value slice pins s σ H x y v u Q I rx ry h hs
  obtain ⟨a, T, d, r, rfl, hk, hd, hr, an⟩ := h
  obtain rfl : v = Value.ref a := rx
  unfold subGD at hr
  split at hr
  · split at hr
    · rename_i p hp
      cases hr
      have := hd.int_inv
      subst this
      obtain ⟨t, rfl⟩ := ry
      obtain ⟨vs, dd, hv⟩ := kdiB_ok hk (P := X.prog) (w := X.w) I.kIn
      obtain ⟨t2, ht2⟩ := hv _ p hp
      exact tail_any dd.typeIs PySem.F.slot_dict_getitem.lookup (wpAny_getItem_of (mixKind_int _ _ _ _) dd.mapOf ht2 ⟨.int p.2, H, I.tok _, ⟨_, rfl⟩, an _ _ .mkInt .refl⟩) hs
    · cases hr
  · cases hr
end Mir

set_option Elab.async false
set_option linter.all false
set_option maxRecDepth 100000
set_option maxHeartbeats 4000000
/-! Mir, part S: sets of numbers and texts, made of lists. -/
namespace Mir
open PySem PySem.Spec PyProof.Rows L2

/-- each key once, as first met -/
def onceK : List Key → List Key → List Key
  | acc, [] => acc
  | acc, k :: ks => onceK (if acc.any (fun x => decide (x = k)) = true then acc else acc ++ [k]) ks
theorem onceK_len : ∀ (ks acc : List Key), (onceK acc ks).length ≤ acc.length + ks.length
  | [], acc => Nat.le_refl _
  | k :: ks, acc => by
    have h := onceK_len ks (if acc.any (fun x => decide (x = k)) = true then acc else acc ++ [k])
    show (onceK (if acc.any (fun x => decide (x = k)) = true then acc else acc ++ [k]) ks).length ≤ _
    refine Nat.le_trans h ?_
    split <;> simp <;> omega
section
variable {P : Program} {w : World} {A : Around}
theorem setOf_as {h : Heap} {a : Addr} {S S' : Key → Bool} {n n' : Nat} (x : h.SetOf (mixKind P w) a S n) (e : ∀ k, S k = S' k) (m : n = n') : h.SetOf (mixKind P w) a S' n' := by
  obtain rfl : S = S' := funext e
  subst m
  exact x
/-- the keys that are left, put into the set -/
theorem setLoop {R : Result → Shared → Prop} {I : Addr} {fp wr : List Addr} {G : Array GenState → Array GenState → Prop} {n : Nat} {C : Nat → Value → Prop} {St : Nat → Shared → Prop} (W : WalksS P w A.in1 I fp wr G n C St) (a : Addr) (ha : a ∉ fp) :
    ∀ (ks : List Key) (i : Nat) (acc : List Key) (s : Shared), i + ks.length = n → (∀ j k v, ks[j]? = some k → C (i + j) v → keyIs k v = true) → acc.length + ks.length + 1 < scanBound → St i s →
      s.heap.SetOf (mixKind P w) a (fun k => acc.any fun x => decide (x = k)) acc.length →
      (∀ s', Moved (a :: wr) G s s' → s'.heap.SetOf (mixKind P w) a (fun k => (onceK acc ks).any fun x => decide (x = k)) (onceK acc ks).length → R (.ok (.ret .none)) s') →
      codeAny (model P w) A (.builtin "set.update.loop" ⟨[.ref a, .ref I], []⟩) R s := by
  have naw : a ∉ wr := fun z => ha (W.sub _ z)
  have sub : ∀ b ∈ wr, b ∈ a :: wr := fun b hb => .tail _ hb
  have kept : ∀ {s s' : Shared} {S : Key → Bool} {m : Nat}, Moved wr G s s' → s.heap.SetOf (mixKind P w) a S m → s'.heap.SetOf (mixKind P w) a S m := fun mv ⟨o, es, ep, t, ho, r⟩ => ⟨o, es, ep, t, mv.heap a _ naw ho, r⟩
  intro ks
  induction ks with
  | nil =>
    intro i acc s hn _ _ hst hS hR
    have hin : i = n := by simpa using hn
    subst hin
    refine codeAny_builtin PyProof.Rows.F.entry_set_update_loop (?_ : wpAny _ (A.under _) _ _ _ _)
    rw [Around.under_plainId PyProof.Rows.F.plain_set_update_loop _]
    refine wpAny_bind (W.done s _ _ hst fun s' mv => ?_)
    exact wpAny_pure (hR s' (mv.mono sub) (kept mv hS))
  | cons k ks ih =>
    intro i acc s hn hC hb hst hS hR
    rw [List.length_cons] at hn hb
    refine codeAny_builtin PyProof.Rows.F.entry_set_update_loop (?_ : wpAny _ (A.under _) _ _ _ _)
    rw [Around.under_plainId PyProof.Rows.F.plain_set_update_loop _]
    refine wpAny_bind (W.item i s _ _ (by omega) hst fun v s' hv hst' mv => ?_)
    have hk : keyIs k v = true := hC 0 k v rfl hv
    have hsc : v.scannable = true := by
      rcases keyIs_shape hk with ⟨j, t, _, rfl⟩ | ⟨x, t, _, rfl⟩ <;> rfl
    have hS' := kept mv hS
    show wpAny _ A.in1 (holding [v] (setAdd a v) >>= _) _ _ s'
    refine wpAny_bind (wpAny_holding ?_)
    unfold setAdd
    refine wpAny_holding (wpAny_bind ((mixKind P w).pyHash (k := k) hk ?_))
    refine wpAny_setAddHashed_of (knd := mixKind P w) (s := { s' with toks := s'.toks + 1 }) hk hsc hS' (by omega) fun h' hsb hS2 => ?_
    have hacc : h'.SetOf (mixKind P w) a (fun k' => (if acc.any (fun x => decide (x = k)) = true then acc else acc ++ [k]).any fun x => decide (x = k')) (if acc.any (fun x => decide (x = k)) = true then acc else acc ++ [k]).length := by
      refine setOf_as hS2 (fun k' => ?_) ?_
      · split
        · rename_i hin
          by_cases e : k' = k
          · subst e; rw [hin]; simp
          · simp [e]
        · rw [List.any_append]
          by_cases e : k' = k
          · subst e; simp
          · have e' : ¬ k = k' := fun z => e z.symm
            simp [e, e']
      · split
        · rfl
        · rw [List.length_append]; rfl
    refine wpAny_pure ⟨plainId_quiet PyProof.Rows.F.plain_set_update_loop _, ih (i + 1) _ _ (by omega) (fun j k' v' hj hc => hC (j + 1) k' v' hj (by rw [show i + (j + 1) = i + 1 + j by omega]; exact hc)) ?_ (W.frame _ s' _ _ hst' (Nat.le_succ _) fun b hbf o e => ?_) hacc fun s2 mv2 hS3 => ?_⟩
    · split
      · omega
      · rw [List.length_append]; show acc.length + 1 + ks.length + 1 < _; omega
    · rw [hsb.2 b fun z => ha (z ▸ hbf)]; exact e
    · refine hR s2 (Moved.trans W.gtrans ((mv.mono sub).then_heap (Nat.le_succ _) fun b o hbn e => ?_) mv2) hS3
      rw [hsb.2 b fun z => hbn (by rw [z]; exact .head _)]; exact e
variable {E : Value → Shared → Prop} {s : Shared}
theorem call_set_keys {l : Addr} {its : List Value} {ks : List Key} {Q : Value → Shared → Prop} (hh : A.handled = none) (hl : s.heap.IsList l its.toArray) (hk : ∀ (j : Nat) (k : Key) (v : Value), ks[j]? = some k → its[j]? = some v → keyIs k v = true) (hlen : its.length = ks.length) (hb : ks.length + 1 < scanBound)
    (h : ∀ (h' : Heap) (tk : Nat), h'.SetOf (mixKind P w) s.heap.objs.size (fun k => (onceK [] ks).any fun x => decide (x = k)) (onceK [] ks).length → (∀ b o, b < s.heap.objs.size → s.heap.get? b = some o → h'.get? b = some o) → Q (.ref s.heap.objs.size) { s with heap := h', toks := tk }) :
    wpAny (model P w) A (call (.type "set") [.ref l]) Q E s := by
  obtain ⟨cc, cs, hmro⟩ := PySem.F.called_set.mro
  have m1 := PySem.F.called_set.made
  have m2 := PySem.F.called_set.sub
  refine wpAny_call (codeAny_of_tree (?_ : wpAny _ _ (callAny (.type "set") _) _ _ _))
  refine wpAny_pure ⟨Code.quiet_builtin _ (by decide +kernel), codeAny_builtin PySem.F.entry_type_call ?_⟩
  rw [Around.under_plain (weight_type_call_type "set" [.ref l] []) rfl]
  have m3 := PySem.F.called_set.notType
  have m4 := PySem.F.called_set.canCreate
  have m5 := PySem.F.typeCall_set_1 (.ref l)
  repeat (any_goals (first | assumption | wp_step))
  refine codeAny_mono (code_set_new_1 (.ref l) (E := E) (Q₁ := fun ob s1 => ∃ led : Bool, ob = .ref s.heap.objs.size ∧ s1 = { s with heap := s.heap.push { cls := .type "set", dict := none, data := .set #[] 0 (.fresh 0 0 led) } }) fun led => ⟨led, rfl, rfl⟩) fun r s1 hr => ?_
  cases r with
  | error e => exact hr
  | ok fl =>
    cases fl with
    | ret ob =>
      obtain ⟨led, rfl, rfl⟩ := hr
      have at0 : (s.heap.push { cls := .type "set", dict := none, data := .set #[] 0 (.fresh 0 0 led) }).get? s.heap.objs.size = some { cls := .type "set", dict := none, data := .set #[] 0 (.fresh 0 0 led) } := Heap.get?_push_size _ rfl
      have ty0 : Shared.TypeIs { s with heap := s.heap.push { cls := .type "set", dict := none, data := .set #[] 0 (.fresh 0 0 led) } } (.ref s.heap.objs.size) "set" := ⟨_, at0, rfl⟩
      have i1 := PySem.F.called_set.init.lookup
      have i2 := PySem.F.called_set.init.bind (.ref s.heap.objs.size)
      repeat (any_goals (first | assumption | wp_step))
      refine codeAny_mono (codeAny_call_builtin (R := wants (fun r s2 => r = .none ∧ ∃ h' tk, s2 = { s with heap := h', toks := tk } ∧ h'.SetOf (mixKind P w) s.heap.objs.size (fun k => (onceK [] ks).any fun x => decide (x = k)) (onceK [] ks).length ∧
        (∀ b o, b < s.heap.objs.size → s.heap.get? b = some o → h'.get? b = some o)) E) PySem.F.called_set.init.plain PySem.F.entry_set_init (check_set_init_1 ty0 ?_)) fun r2 s2 hr2 => ?_
      · obtain ⟨⟨oc, od, dt, sl⟩, ho, hc, nl, hd⟩ := hl
        simp only at hc hd
        subst hc hd
        have ho1 : (s.heap.push { cls := .type "set", dict := none, data := .set #[] 0 (.fresh 0 0 led) }).get? l = some { cls := .type "list", dict := od, data := .seq its.toArray nl, slots := sl } := Heap.get?_push_of_some _ ho
        have n1 := PySem.F.sub_list_set
        have n2 := PySem.F.sub_list_frozenset
        have n3 : (Value.type "list" == Value.type "dict") = false := by decide
        have hl1 : (s.heap.push { cls := .type "set", dict := none, data := .set #[] 0 (.fresh 0 0 led) }).IsList l its.toArray := ⟨_, ho1, rfl, nl, rfl⟩
        unfold Builtin.«set.__init__» noKeywords Builtin.Frozenset.updateFrom
        generalize hPI : pyIter = PI
        wp_walk
        subst hPI
        refine wpAny_pyIter_list hl1 (wpAny_bind (wpAny_runValue ?_))
        have lS : l < s.heap.objs.size := Heap.lt_size ho
        have h3 : A.in1.in1.in1.handled = none := by simp [hh]
        have neI : l ≠ (s.heap.push { cls := .type "set", dict := none, data := .set #[] 0 (.fresh 0 0 led) }).objs.size := by
          rw [Heap.size_push]; exact Nat.ne_of_lt (Nat.lt_succ_of_lt lS)
        have notin : s.heap.objs.size ∉ [(s.heap.push { cls := .type "set", dict := none, data := .set #[] 0 (.fresh 0 0 led) }).objs.size, l] := by
          rw [Heap.size_push]
          intro z
          rcases List.mem_cons.mp z with z | z
          · exact Nat.ne_of_lt (Nat.lt_succ_self _) z
          · exact Nat.ne_of_gt lS (List.mem_singleton.mp z)
        refine setLoop (W := (Walks.list h3 _ l neI its.toArray).toS) s.heap.objs.size notin ks 0 [] _ (by simp [hlen]) (fun j k v hj hv => hk j k v hj (by simpa using hv)) (by simpa using hb) ⟨⟨_, Heap.get?_push_size _ rfl, rfl, rfl⟩, hl1.push _⟩ ?_ ?_
        · have at1 : ((s.heap.push { cls := .type "set", dict := none, data := .set #[] 0 (.fresh 0 0 led) }).push { cls := .type "list_iterator", data := .fields #[.ref l, .int 0 0] }).get? s.heap.objs.size
              = some { cls := .type "set", dict := none, data := .set #[] 0 (.fresh 0 0 led) } := Heap.get?_push_of_some _ at0
          letI : BEq Key := instBEqOfDecidableEq
          haveI : LawfulBEq Key := inferInstance
          exact setOf_as ((PyProof.Rows.setObjOf_fresh (knd := mixKind P w) led).setOf at1 (by unfold scanBound; omega)) (fun _ => rfl) rfl
        · intro s' mv hS'
          obtain ⟨h', g', d', tk', os'⟩ := s'
          obtain rfl : g' = s.gens := mv.gens
          obtain rfl : d' = s.drawn := mv.drawn
          obtain rfl : os' = s.os := mv.os
          refine wpAny_pure (wpAny_pure ⟨rfl, h', tk', rfl, hS', fun b o hb' e => ?_⟩)
          refine mv.heap b o (fun z => ?_) (Heap.get?_push_of_some _ (Heap.get?_push_of_some _ e))
          rcases List.mem_cons.mp z with z | z
          · exact Nat.ne_of_lt hb' z
          · rw [List.mem_singleton, Heap.size_push] at z
            exact Nat.ne_of_lt (Nat.lt_succ_of_lt hb') z
      · cases r2 with
        | error e => exact hr2
        | ok fl2 =>
          cases fl2 with
          | ret r =>
            obtain ⟨rfl, h', tk, rfl, hS', hk'⟩ := hr2
            repeat (any_goals (first | assumption | wp_step))
            exact h _ _ hS' hk'
          | _ => exact hr2.elim
    | _ => exact hr.elim
end
end Mir

set_option Elab.async false
set_option linter.all false
set_option maxRecDepth 100000
set_option maxHeartbeats 4000000
/-! Mir, part F: expressions. -/
namespace Mir
open PySem PySem.Spec PyProof.Rows L2

/-! ### operations raise nothing -/
theorem binD_nx {op : Operator} {x y : PyData} {n : Str} {l : List PyData} (h : binD op x y = .exc n l) : False := by
  unfold binD at h
  split at h <;> first | (cases h; done) | (split at h <;> cases h)
theorem cmpD_nx {op : CmpOp} {x y : PyData} {n : Str} {l : List PyData} (h : cmpD op x y = .exc n l) : False := by
  unfold cmpD at h
  split at h <;> first | (cases h; done) | (split at h <;> cases h)
theorem optR_nx {α : Type} {o : Option α} {n : Str} {l : List PyData} (h : optR o = .exc n l) : False := by cases o <;> cases h
theorem intR_nx {x : PyData} {n : Str} {l : List PyData} (h : intR x = .exc n l) : False := by unfold intR at h; split at h <;> cases h
theorem itemsR_nx {x : PyData} {n : Str} {l : List PyData} (h : itemsR x = .exc n l) : False := by unfold itemsR at h; split at h <;> cases h
theorem bind_nx {α β : Type} {r : R α} {f : α → R β} {n : Str} {l : List PyData} (h : r.bind f = .exc n l) : (∃ a, r = .ok a ∧ f a = .exc n l) ∨ r = .exc n l := by
  cases r with
  | ok a => exact .inl ⟨a, rfl, h⟩
  | exc x l => exact .inr (by cases h; rfl)
  | bad => cases h
theorem subD_nx {x y : PyData} {n : Str} {l : List PyData} (h : subD x y = .exc n l) : False := by
  unfold subD at h
  split at h
  · exact optR_nx h
  · exact optR_nx h
  · exact optR_nx h
  · split at h
    · exact optR_nx h
    · cases h
  · cases h
theorem cutX_nx {x : PyData} {a b : Option Int} {n : Str} {l : List PyData} (h : cutX x a b = .exc n l) : False := by
  unfold cutX at h
  split at h <;> cases h
theorem one_nx {f : PyData → R PyData} {ds : List PyData} {n : Str} {l : List PyData} (h : one f ds = .exc n l) (q : ∀ x, f x ≠ .exc n l) : False := by
  unfold one at h
  split at h
  · exact q _ h
  · cases h
theorem two_nx {f : PyData → PyData → R PyData} {ds : List PyData} {n : Str} {l : List PyData} (h : two f ds = .exc n l) (q : ∀ x y, f x y ≠ .exc n l) : False := by
  unfold two at h
  split at h
  · exact q _ _ h
  · cases h
theorem items_then {x : PyData} {f : List PyData → R PyData} {n : Str} {l : List PyData} (h : (itemsR x).bind f = .exc n l) (q : ∀ xs, f xs ≠ .exc n l) : False := by
  rcases bind_nx h with ⟨a, _, h⟩ | h
  · exact q _ h
  · exact itemsR_nx h
theorem int_then {α : Type} {x : PyData} {f : Int → R α} {n : Str} {l : List PyData} (h : (intR x).bind f = .exc n l) (q : ∀ i, f i ≠ .exc n l) : False := by
  rcases bind_nx h with ⟨a, _, h⟩ | h
  · exact q _ h
  · exact intR_nx h
theorem bltD_nx {f : B} {ds : List PyData} {n : Str} {l : List PyData} (h : bltD f ds = .exc n l) : False := by
  cases f with
  | len => exact one_nx h fun x h => by unfold lenD at h; split at h <;> cases h
  | tuple_ => exact one_nx h fun x h => items_then h fun xs h => nomatch h
  | list_ => exact one_nx h fun x h => items_then h fun xs h => nomatch h
  | sorted => exact one_nx h fun x h => by unfold sortedD at h; split at h <;> first | (cases h; done) | (split at h <;> cases h)
  | all_ => exact one_nx h fun x h => by unfold allD at h; split at h <;> first | (cases h; done) | (split at h <;> cases h)
  | any_ => exact one_nx h fun x h => by unfold anyD at h; split at h <;> first | (cases h; done) | (split at h <;> cases h)
  | int_ => exact one_nx h fun x h => by unfold intD at h; split at h <;> first | (cases h; done) | (split at h <;> first | (cases h; done) | (split at h <;> cases h))
  | sum => exact one_nx h fun x h => by unfold sumD at h; split at h <;> first | (cases h; done) | (split at h <;> cases h)
  | min1 => exact one_nx h fun x h => items_then h fun xs h => by unfold minR at h; split at h <;> first | (cases h; done) | (split at h <;> cases h)
  | max1 => exact one_nx h fun x h => items_then h fun xs h => by unfold maxR at h; split at h <;> first | (cases h; done) | (split at h <;> cases h)
  | min2 => exact two_nx h fun x y h => int_then h fun i h => int_then h fun j h => nomatch h
  | max2 => exact two_nx h fun x y h => int_then h fun i h => int_then h fun j h => nomatch h
  | abs => exact one_nx h fun x h => int_then h fun i h => nomatch h
  | str_ => exact one_nx h fun x h => int_then h fun i h => by split at h <;> cases h
  | _ => cases h

/-! ### forms of the text -/
def okE : Expr → Bool
  | .Starred .. => false
  | .Set .. => false
  | .Slice .. => false
  | _ => true
theorem star_cons {e : Expr} (h : okE e = true) (es : List Expr) (env : PySem.Env) : starEach (e :: es) env = (false, eval e env) :: starEach es env := by cases e <;> first | rfl | cases h
theorem mark_ok {e : Expr} (h : okE e = true) (op : CmpOp) : behindInMarks op e = false := by cases e <;> first | rfl | cases h
theorem ix_ok {e : Expr} (h : okE e = true) : PlainIx e := by cases e <;> first | (intro o i; rfl) | cases h
theorem fold_ok {e : Expr} (h : okE e = true) (env : PySem.Env) : ∀ x, foldedSetIterable e env x = pure x := by cases e <;> first | (intro x; rfl) | cases h
theorem back_ok (pos : Pos) (env : PySem.Env) : ∀ {es : List Expr}, es.all okE = true → (backTo pos (starEach es env)).any (·.1) = false
  | [], _ => rfl
  | e :: es, h => by
    rw [List.all_cons, Bool.and_eq_true] at h
    rw [star_cons h.1]
    show (false || (backTo pos (starEach es env)).any (·.1)) = false
    rw [back_ok pos env h.2]; rfl
/-- its test is its value's truth -/
def plainT : Expr → Bool
  | .UnaryOp .Not _ _ => false
  | .BoolOp .. => false
  | .IfExp .. => false
  | .Compare .. => false
  | _ => true
theorem plain_test {e : Expr} (h : plainT e = true) (env : PySem.Env) (whole : Sem Value) : isTrue e env whole = (do let v ← whole; standAt e.pos; holding [v] (PySem.truthy v)) := by
  cases e <;> first | rfl | (cases h; done) | (rename_i op _ _; cases op <;> first | rfl | cases h)

/-! ### the context -/
structure XW (X : Cx) (N : List Str) (sp : Scope) : Prop where
  n : X.N = N
  nd : N.Nodup
  sc : X.env.scope = sp
  calm : X.calm = true
  room : X.A.units + 200 < cLine
section
variable {S : Type} {X : Cx} {k : SK S} {T : Addr → Prop} {σ : L2.St} {H : Hp} {ρ : Env} {st : S} {W : WX} {c a b : E S} {e ea eb : Expr} {pos : Pos}
theorem ST.of (h : SE X k c e) (p : plainT e = true) : ST X k c e := fun T ρ st σ H Q W n o t post pins s I => by
  refine isTrue_plain ?_ (plain_test p X.env _)
  refine thn (h T ρ st σ H (fun v H' => ∃ T d, Rep T H' d v ∧ Q (truthy d) H') W n o t ?_ pins s I) fun v s1 ⟨x, H1, I1, r1, q⟩ => tru_D pins s1 σ H1 x v _ I1 r1 q
  unfold PostT at post
  unfold PostE
  cases hr : ev c ρ st with
  | ok a => rw [hr] at post; exact fun v H' r e k' => ⟨T, a.1, r, post H' e k'⟩
  | exc x l => rw [hr] at post; exact post
  | bad => rw [hr] at post; exact post
/-- an outcome that raises nothing is there -/
theorem PostE.there {r : R PyData} {Q : VK} (p : PostE X k T σ H (lft r st) Q W) (nx : ∀ n l, r ≠ .exc n l) : ∃ d, r = .ok d ∧ ∀ v H', Rep T H' d v → Ext k.loc H H' → k.rel st H' → Q v H' := by
  cases r with
  | ok d => exact ⟨d, rfl, p⟩
  | exc x l => exact (nx _ _ rfl).elim
  | bad => exact p.elim
theorem PostE.ret {d : PyData} {Q : VK} (p : PostE X k T σ H (ret d st) Q W) : ∀ v H', Rep T H' d v → Ext k.loc H H' → k.rel st H' → Q v H' := p
theorem Ext.of_no {T : Addr → Prop} {H H' : Hp} (e : Ext NoT H H') : Ext T H H' := fun a o _ h => e a o id h
theorem Ok.dom' (o : Ok X k T st H) : Dom T H := fun p h => o.none h
theorem Ok.relNo (o : Ok X k T st H) {H' : Hp} (e : Ext NoT H H') : k.rel st H' := k.keep st H H' o.rel fun a h => by
  obtain ⟨xs, q⟩ := k.there _ _ a o.rel h
  rw [e a _ id q, q]

theorem se_v {i : Nat} {x : Str} (hN : X.N[i]? = some x) (hv : Vis X.env.scope x) (hd : (x == ("__debug__" : Str)) = false) (hcd : (x == ("__classdict__" : Str)) = false) : SE X k (.v i) (.Name x pos) := fun T ρ st σ H Q W n o t p => by
  obtain ⟨d, hg, q⟩ := PostE.there (r := getV ρ i) p fun n l h => by unfold getV at h; split at h <;> cases h
  unfold getV at hg
  split at hg
  · rename_i d' e
    cases hg
    obtain ⟨v, e1, e2⟩ := n.v i (by simp [fv]) _ e
    exact (pe_var hN hv hd hcd).w ⟨v, e1, q v H e2 .refl o.rel⟩
  · cases hg
theorem se_int {i : Int} {j : Nat} : SE X k (.int i) (.Constant (.int i) j pos) := fun T ρ st σ H Q W n o t p => pe_int.w (PostE.ret p _ _ .mkInt .refl o.rel)
theorem se_bl {i : Bool} {j : Nat} : SE X k (.bl i) (.Constant (.bool i) j pos) := fun T ρ st σ H Q W n o t p => pe_bl.w (PostE.ret p _ _ .mkBool .refl o.rel)
theorem se_non {j : Nat} : SE X k .non (.Constant .none j pos) := fun T ρ st σ H Q W n o t p => pe_non.w (PostE.ret p _ _ .mkNone .refl o.rel)
theorem se_str {x : Str} {j : Nat} : SE X k (.str x) (.Constant (.str x) j pos) := fun T ρ st σ H Q W n o t p => by
  simp only [ev] at p
  split at p
  · rename_i z
    exact pe_str.w (PostE.ret p _ _ (.mkStr z) .refl o.rel)
  · exact p.elim
/-- a constant of the module -/
def GlobOk (mg : Str → Option Value) (x : Str) (d : PyData) : Prop := ∃ u v, mg x = some u ∧ RelV v u ∧ ∀ (T : Addr → Prop) (H : Hp), Rep T H d v
theorem se_glob {x : Str} {d : PyData} (hg : Gl X x) (hd : (x == ("__debug__" : Str)) = false) (h : GlobOk X.mg x d) : SE X k (.glob x d) (.Name x pos) := fun T ρ st σ H Q W n o t p => by
  obtain ⟨u, v, hm, r, rep⟩ := h
  exact (pe_glob hg hm r hd).w (PostE.ret p _ _ (rep T H) .refl o.rel)
theorem EnvR.left {L L' : List Nat} (n : EnvR X k T (L ++ L') ρ σ H) : EnvR X k T L ρ σ H := n.sub fun i h => List.mem_append_left _ h
theorem EnvR.right {L L' : List Nat} (n : EnvR X k T (L ++ L') ρ σ H) : EnvR X k T L' ρ σ H := n.sub fun i h => List.mem_append_right _ h
/-- two parts, an operation of both -/
theorem two_of (ha : SE X k a ea) (hb : SE X k b eb) {g : PyData → PyData → R PyData} (nx : ∀ x y n l, g x y ≠ .exc n l) {Q : VK} (n1 : EnvR X k T (fv a) ρ σ H) (n2 : EnvR X k T (fv b) ρ σ H) (o : Ok X k T st H) (t : Takes X W)
    (p : PostE X k T σ H (bnd (ev a ρ) (fun x => bnd (ev b ρ) fun y => lft (g x y)) st) Q W) : wE X ea σ H fun v H1 => wE X eb σ H1 fun u H2 => rD2 X g v u H2 Q := by
  refine ha.then n1 o t p fun x st1 v H1 r1 e1 o1 p1 => ?_
  refine hb.then (n2.next (o.extT e1)) o1 t p1 fun y st2 u H2 r2 e2 o2 p2 => ?_
  obtain ⟨d, hd, q⟩ := p2.there (nx _ _)
  exact ⟨T, x, y, d, o2.dom', r1.ext (o1.extT e2), r2, hd, fun w H' rw' e' => q w H' rw' (.of_no e') (o2.relNo e')⟩
theorem se_bin {op : Operator} (ha : SE X k a ea) (hb : SE X k b eb) : SE X k (.bin op a b) (.BinOp ea op eb pos) := fun T ρ st σ H Q W n o t p =>
  (pe_op (op_binD op) pe_w pe_w).w (two_of ha hb (fun x y n l => binD_nx) n.left n.right o t p)
theorem se_cmp {op : CmpOp} (w : X.A.units + 200 < cLine) (ha : SE X k a ea) (hb : SE X k b eb) (hk : okE eb = true) : SE X k (.cmp op a b) (.Compare ea [op] [eb] pos) := fun T ρ st σ H Q W n o t p =>
  (pe_cmpR (op_cmpD (by omega) op) pe_w pe_w (mark_ok hk op)).w (two_of ha hb (fun x y n l => cmpD_nx) n.left n.right o t p)
theorem cmpD_bool {op : CmpOp} {x y d : PyData} (h : cmpD op x y = .ok d) : ∃ b, d = .bool b := by
  unfold cmpD at h
  split at h <;> first | (cases h; exact ⟨_, rfl⟩) | (cases h; done) | (split at h <;> first | (cases h; exact ⟨_, rfl⟩) | (cases h; done))
/-- .. as a test -/
theorem st_cmp {op : CmpOp} (w : X.A.units + 200 < cLine) (ha : SE X k a ea) (hb : SE X k b eb) (hk : okE eb = true) : ST X k (.cmp op a b) (.Compare ea [op] [eb] pos) := fun T ρ st σ H Q W n o t p => by
  refine (pt_cmpR (op_cmpD (by omega) op) pe_w pe_w (mark_ok hk op)).w ?_
  show wE X ea σ H fun v H1 => wE X eb σ H1 fun u H2 => rD2 X (cmpD op) v u H2 fun x H' => ∃ c, x = .bl c ∧ Q c H'
  refine two_of (W := W) ha hb (fun x y n l => cmpD_nx) n.left n.right o t ?_
  have e : ev (.cmp op a b) ρ st = bnd (ev a ρ) (fun x => bnd (ev b ρ) fun y => lft (cmpD op x y)) st := rfl
  rw [← e]
  unfold PostT at p
  unfold PostE
  cases hr : ev (.cmp op a b) ρ st with
  | ok z =>
    rw [hr] at p
    obtain ⟨d, st'⟩ := z
    have hb : ∃ c, d = .bool c := by
      rw [e] at hr
      unfold bnd at hr
      obtain ⟨⟨x1, s1⟩, _, h2⟩ := bind_ok hr
      obtain ⟨⟨x2, s2⟩, _, h3⟩ := bind_ok h2
      unfold lft at h3
      obtain ⟨z, h4, h5⟩ := bind_ok h3
      cases h5
      exact cmpD_bool h4
    obtain ⟨c, rfl⟩ := hb
    exact fun v H' r e k' => ⟨c, r.bool_inv, p H' e k'⟩
  | exc x l => rw [hr] at p; exact p
  | bad => rw [hr] at p; exact p
theorem se_neg (ha : SE X k a ea) : SE X k (.neg a) (.UnaryOp .USub ea pos) := fun T ρ st σ H Q W n o t p => by
  refine (pe_un un_neg pe_w).w ?_
  refine ha.then n o t p fun x st1 v H1 r1 e1 o1 p1 => ?_
  obtain ⟨d, hd, q⟩ := p1.there fun n l h => int_then h fun i h => nomatch h
  obtain ⟨i, hi, hd⟩ := bind_ok hd
  cases hd
  rw [intR_ok hi] at r1
  exact ⟨i, r1.int_inv, q _ _ .mkInt .refl o1.rel⟩
theorem st_not (ha : ST X k a ea) : ST X k (.not_ a) (.UnaryOp .Not ea pos) := fun T ρ st σ H Q W n o t p => by
  refine (pt_not pt_w).w ?_
  exact ha.thenT n o t p fun d st' H' e o' p' => p' H' .refl o'.rel
theorem se_not (ha : SE X k a ea) : SE X k (.not_ a) (.UnaryOp .Not ea pos) := fun T ρ st σ H Q W n o t p pins s I => by
  refine UnaryOp_ (thn ((ha.then (Q := fun v H' => ∃ T d, Rep T H' d v ∧ Q (.bl (!truthy d)) H') n o t p fun d st' v H' r e o' p' => ⟨T, d, r, p' _ _ .mkBool .refl o'.rel⟩) pins s I) fun v s1 ⟨x, H1, I1, r1, q⟩ => ?_)
  obtain ⟨T', d, rep, q⟩ := q
  exact not_of (thn (tru_D pins s1 σ H1 x v (fun c H2 => Q (.bl (!c)) H2) I1 r1 ⟨T', d, rep, q⟩) fun c s2 ⟨H2, I2, q2⟩ => ⟨.bl (!c), H2, I2, rfl, q2⟩)
theorem se_one {op : PySem.BoolOp} (ha : SE X k a ea) : SE X k (.one a) (.BoolOp op [ea] pos) := fun T ρ st σ H Q W n o t p => (pe_one pe_w).w (ha T ρ st σ H Q W n o t p)
/-- and, or as values -/
theorem se_and {rest : List Expr} (ha : SE X k a ea) (hb : SE X k b (.BoolOp .And (eb :: rest) pos)) : SE X k (.and_ a b) (.BoolOp .And (ea :: eb :: rest) pos) := fun T ρ st σ H Q W n o t p pins s I => by
  refine BoolOp_and (thn ((ha.then (Q := fun v H1 => ∃ d st1, Rep T H1 d v ∧ Ext k.loc H H1 ∧ Ok X k T st1 H1 ∧ PostE X k T σ H1 ((if truthy d = true then ev b ρ else ret d) st1) Q W) n.left o t p fun d st1 v H1 r e o1 p1 => ⟨d, st1, r, e, o1, p1⟩) pins s I) fun v s1 ⟨x, H1, I1, r1, q⟩ => ?_)
  obtain ⟨d, st1, rep, e1, o1, p1⟩ := q
  refine thn (tru_D pins s1 σ H1 x v (fun c H2 => c = truthy d ∧ H2 = H1) I1 r1 ⟨T, d, rep, rfl, rfl⟩) fun c s2 hc => ?_
  obtain ⟨H2, I2, e2, e3⟩ := hc
  rw [e3] at I2
  rw [← e2] at p1
  cases c with
  | true =>
    rw [if_pos rfl] at p1 ⊢
    exact hb T ρ st1 σ H1 Q W (n.right.next (o.extT e1)) o1 t p1 pins s2 I2
  | false =>
    rw [if_neg Bool.false_ne_true] at p1 ⊢
    exact ⟨x, H1, I2, r1, PostE.ret p1 _ _ rep .refl o1.rel⟩
theorem se_or {rest : List Expr} (ha : SE X k a ea) (hb : SE X k b (.BoolOp .Or (eb :: rest) pos)) : SE X k (.or_ a b) (.BoolOp .Or (ea :: eb :: rest) pos) := fun T ρ st σ H Q W n o t p pins s I => by
  refine BoolOp_or (thn ((ha.then (Q := fun v H1 => ∃ d st1, Rep T H1 d v ∧ Ext k.loc H H1 ∧ Ok X k T st1 H1 ∧ PostE X k T σ H1 ((if truthy d = true then ret d else ev b ρ) st1) Q W) n.left o t p fun d st1 v H1 r e o1 p1 => ⟨d, st1, r, e, o1, p1⟩) pins s I) fun v s1 ⟨x, H1, I1, r1, q⟩ => ?_)
  obtain ⟨d, st1, rep, e1, o1, p1⟩ := q
  refine thn (tru_D pins s1 σ H1 x v (fun c H2 => c = truthy d ∧ H2 = H1) I1 r1 ⟨T, d, rep, rfl, rfl⟩) fun c s2 hc => ?_
  obtain ⟨H2, I2, e2, e3⟩ := hc
  rw [e3] at I2
  rw [← e2] at p1
  cases c with
  | false =>
    rw [if_neg Bool.false_ne_true] at p1 ⊢
    exact hb T ρ st1 σ H1 Q W (n.right.next (o.extT e1)) o1 t p1 pins s2 I2
  | true =>
    rw [if_pos rfl] at p1 ⊢
    exact ⟨x, H1, I2, r1, PostE.ret p1 _ _ rep .refl o1.rel⟩
/-- .. as tests -/
theorem sw_oneA (ha : ST X k a ea) : SW X k (.one a) (.BoolOp .And [ea] pos) := fun T ρ st σ H Q W n o t p => (pw_and1 pt_w).w (ha T ρ st σ H Q W n o t p)
theorem sw_oneO (ha : ST X k a ea) : SW X k (.one a) (.BoolOp .Or [ea] pos) := fun T ρ st σ H Q W n o t p => (pw_or1 pt_w).w (ha T ρ st σ H Q W n o t p)
theorem sw_and {rest : List Expr} (ha : ST X k a ea) (hb : SW X k b (.BoolOp .And (eb :: rest) pos)) : SW X k (.and_ a b) (.BoolOp .And (ea :: eb :: rest) pos) := fun T ρ st σ H Q W n o t p => by
  refine (pw_and pt_w pw_w).w ?_
  refine ha.thenT n.left o t p fun d st1 H1 e1 o1 p1 => ?_
  by_cases h : truthy d = true
  · rw [if_pos h] at p1 ⊢
    exact hb T ρ st1 σ H1 Q W (n.right.next (o.extT e1)) o1 t p1
  · rw [if_neg h] at p1 ⊢
    have := p1 H1 .refl o1.rel
    rwa [show truthy d = false by simpa using h] at this
theorem sw_or {rest : List Expr} (ha : ST X k a ea) (hb : SW X k b (.BoolOp .Or (eb :: rest) pos)) : SW X k (.or_ a b) (.BoolOp .Or (ea :: eb :: rest) pos) := fun T ρ st σ H Q W n o t p => by
  refine (pw_or pt_w pw_w).w ?_
  refine ha.thenT n.left o t p fun d st1 H1 e1 o1 p1 => ?_
  by_cases h : truthy d = true
  · rw [if_pos h] at p1 ⊢
    have := p1 H1 .refl o1.rel
    rwa [h] at this
  · rw [if_neg h] at p1 ⊢
    exact hb T ρ st1 σ H1 Q W (n.right.next (o.extT e1)) o1 t p1
theorem se_ite {ec : Expr} (hc : ST X k c ec) (ha : SE X k a ea) (hb : SE X k b eb) : SE X k (.ite c a b) (.IfExp ec ea eb pos) := fun T ρ st σ H Q W n o t p => by
  refine (pe_ifExp pt_w pe_w pe_w).w ?_
  refine hc.then n.left o t p fun d st1 H1 e1 o1 p1 => ?_
  by_cases h : truthy d = true
  · rw [if_pos h] at p1 ⊢
    exact ha T ρ st1 σ H1 Q W (n.right.left.next (o.extT e1)) o1 t p1
  · rw [if_neg h] at p1 ⊢
    exact hb T ρ st1 σ H1 Q W (n.right.right.next (o.extT e1)) o1 t p1
theorem st_ite {ec : Expr} (hc : ST X k c ec) (ha : ST X k a ea) (hb : ST X k b eb) : ST X k (.ite c a b) (.IfExp ec ea eb pos) := fun T ρ st σ H Q W n o t p pins s I => by
  refine isTrue_IfExp (thn ((hc.thenT (Q := fun c' H1 => if c' = true then wT X ea σ H1 Q else wT X eb σ H1 Q) n.left o t p fun d st1 H1 e1 o1 p1 => ?_) pins s I) fun c' s1 ⟨H1, I1, q⟩ => ?_)
  · by_cases h : truthy d = true
    · rw [if_pos h] at p1 ⊢
      exact ha T ρ st1 σ H1 Q W (n.right.left.next (o.extT e1)) o1 t p1
    · rw [if_neg h] at p1 ⊢
      exact hb T ρ st1 σ H1 Q W (n.right.right.next (o.extT e1)) o1 t p1
  · cases c' with
    | true => exact q pins s1 I1
    | false => exact q pins s1 I1
/-! ### several -/
theorem sa_nil : SA X k .nil [] := fun T ρ st σ H Q W n o t p => pa_nil.w (p [] H .nil .refl o.rel)
theorem sa_cons {es : List Expr} {r : Es S} (ha : SE X k a ea) (hr : SA X k r es) (hk : okE ea = true) : SA X k (.cons a r) (ea :: es) := fun T ρ st σ H Q W n o t p => by
  refine (pa_cons pe_w pa_w (star_cons hk _ _)).w ?_
  refine ha.thenA n.left o t p fun d st1 v H1 r1 e1 o1 p1 => ?_
  refine hr.thenA (n.right.next (o.extT e1)) o1 t p1 fun ds st2 vs H2 r2 e2 o2 p2 => ?_
  exact p2 _ _ (.cons (r1.ext (o1.extT e2)) r2) .refl o2.rel
theorem se_tup {es : List Expr} {r : Es S} {j : Nat} (hr : SA X k r es) : SE X k (.tup r) (.Tuple es j pos) := fun T ρ st σ H Q W n o t p => by
  refine (pe_tup pa_w).w ?_
  refine hr.then n o t p fun ds st1 vs H1 r1 e1 o1 p1 => ?_
  split at p1
  · rename_i z
    exact ⟨by rw [← r1.length]; exact z, fun q hq => PostE.ret p1 _ _ (.mkTuple (o1.none hq) upd_same (by rw [← r1.length]; exact z) (r1.laid hq)) (Ext.laid hq) (o1.relNo (Ext.laid hq))⟩
  · exact p1.elim
theorem se_lst {es : List Expr} {r : Es S} (hr : SA X k r es) : SE X k (.lst r) (.List es pos) := fun T ρ st σ H Q W n o t p => by
  refine (pe_lst pa_w).w ?_
  refine hr.then n o t p fun ds st1 vs H1 r1 e1 o1 p1 => ?_
  split at p1
  · rename_i z
    exact ⟨by rw [← r1.length]; exact z, fun q hq => PostE.ret p1 _ _ (.mkList (o1.none hq) upd_same (by rw [← r1.length]; exact z) (r1.laid hq)) (Ext.laid hq) (o1.relNo (Ext.laid hq))⟩
  · exact p1.elim
theorem se_dict0 : SE X k .dict0 (.Dict [] [] pos) := fun T ρ st σ H Q W n o t p =>
  pe_dnewK.w fun q hq => PostE.ret p _ _ (by simp only [Rep]; exact ⟨q, rfl, o.none hq, .inl ⟨[], .inl upd_same, by simp [RepK]⟩⟩) (Ext.laid hq) (o.relNo (Ext.laid hq))
theorem se_sub (w : X.A.units + 200 < cLine) (ha : SE X k a ea) (hb : SE X k b eb) (hk : okE eb = true) : SE X k (.sub a b) (.Subscript ea eb pos) := fun T ρ st σ H Q W n o t p =>
  (pe_ix (ix_D (by omega)) pe_w pe_w (ix_ok hk)).w (two_of ha hb (fun x y n l => subD_nx) n.left n.right o t p)
theorem se_slL {lo : E S} {elo : Expr} {p2 : Pos} (ha : SE X k a ea) (hl : SE X k lo elo) : SE X k (.slL a lo) (.Subscript ea (.Slice (some elo) none none p2) pos) := fun T ρ st σ H Q W n o t p => by
  refine (pe_slice sl_D pe_w (po_some pe_w) po_none).w ?_
  refine ha.then n.left o t p fun x st1 v H1 r1 e1 o1 p1 => ?_
  refine hl.then (n.right.next (o.extT e1)) o1 t p1 fun y st2 u H2 r2 e2 o2 p2 => ?_
  obtain ⟨d, hd, q⟩ := p2.there fun n l h => int_then h fun i h => cutX_nx h
  obtain ⟨i, hi, hd⟩ := bind_ok hd
  rw [intR_ok hi] at r2
  exact ⟨i, r2.int_inv, T, x, d, o2.dom', r1.ext (o1.extT e2), hd, fun w H' rw' e' => q w H' rw' (.of_no e') (o2.relNo e')⟩
theorem se_slH {hi : E S} {ehi : Expr} {p2 : Pos} (ha : SE X k a ea) (hl : SE X k hi ehi) : SE X k (.slH a hi) (.Subscript ea (.Slice none (some ehi) none p2) pos) := fun T ρ st σ H Q W n o t p => by
  refine (pe_slice sl_D pe_w po_none (po_some pe_w)).w ?_
  refine ha.then n.left o t p fun x st1 v H1 r1 e1 o1 p1 => ?_
  refine hl.then (n.right.next (o.extT e1)) o1 t p1 fun y st2 u H2 r2 e2 o2 p2 => ?_
  obtain ⟨d, hd, q⟩ := p2.there fun n l h => int_then h fun i h => cutX_nx h
  obtain ⟨i, hi, hd⟩ := bind_ok hd
  rw [intR_ok hi] at r2
  exact ⟨i, r2.int_inv, T, x, d, o2.dom', r1.ext (o1.extT e2), hd, fun w H' rw' e' => q w H' rw' (.of_no e') (o2.relNo e')⟩
theorem se_sl {lo hi : E S} {elo ehi : Expr} {p2 : Pos} (ha : SE X k a ea) (hl : SE X k lo elo) (hh : SE X k hi ehi) : SE X k (.sl a lo hi) (.Subscript ea (.Slice (some elo) (some ehi) none p2) pos) := fun T ρ st σ H Q W n o t p => by
  refine (pe_slice sl_D pe_w (po_some pe_w) (po_some pe_w)).w ?_
  refine ha.then n.left o t p fun x st1 v H1 r1 e1 o1 p1 => ?_
  refine hl.then (n.right.left.next (o.extT e1)) o1 t p1 fun y st2 u H2 r2 e2 o2 p2 => ?_
  have p2' : ∃ i, intR y = .ok i ∧ PostE X k T σ H2 (bnd (ev hi ρ) (fun h => lft ((intR h).bind fun h => cutX x (some i) (some h))) st2) Q W := by
    cases hy : intR y with
    | ok i => rw [hy] at p2; exact ⟨i, rfl, p2⟩
    | exc n l => exact (intR_nx hy).elim
    | bad => rw [hy] at p2; exact p2.elim
  obtain ⟨i, hy, p2⟩ := p2'
  rw [intR_ok hy] at r2
  refine ⟨i, r2.int_inv, ?_⟩
  refine hh.then ((n.right.right.next (o.extT e1)).next (o1.extT e2)) o2 t p2 fun z st3 w H3 r3 e3 o3 p3 => ?_
  obtain ⟨d, hd, q⟩ := p3.there fun n l h => int_then h fun i h => cutX_nx h
  obtain ⟨j, hj, hd⟩ := bind_ok hd
  rw [intR_ok hj] at r3
  exact ⟨j, r3.int_inv, T, x, d, o3.dom', (r1.ext (o1.extT e2)).ext (o2.extT e3), hd, fun w H' rw' e' => q w H' rw' (.of_no e') (o3.relNo e')⟩

/-! ### chains -/
theorem se_chain {o1 o2 : CmpOp} {ec : Expr} (w : X.A.units + 200 < cLine) (ha : SE X k a ea) (hb : SE X k b eb) (hc : SE X k c ec) (kb : okE eb = true) (kc : okE ec = true) : SE X k (.chain o1 o2 a b c) (.Compare ea [o1, o2] [eb, ec] pos) := fun T ρ st σ H Q W n o t p => by
  refine (pe_chain (op_cmpD (by omega) o1) (op_cmpD (by omega) o2) pe_w pe_w pe_w (by show behindInMarks o2 ec = false; exact mark_ok kc o2)).w ?_
  refine ha.then n.left o t p fun x st1 v H1 r1 e1 ok1 p1 => ?_
  refine hb.then (n.right.left.next (o.extT e1)) ok1 t p1 fun y st2 u H2 r2 e2 ok2 p2 => ?_
  have hz : ∃ z, cmpD o1 x y = .ok z := by
    cases q : cmpD o1 x y with
    | ok z => exact ⟨z, rfl⟩
    | exc n l => exact (cmpD_nx q).elim
    | bad => rw [q] at p2; exact p2.elim
  obtain ⟨z, hz⟩ := hz
  rw [hz] at p2
  obtain ⟨bz, rfl⟩ := cmpD_bool hz
  have p2 : PostE X k T σ H2 ((if truthy (.bool bz) = true then bnd (ev c ρ) fun w => lft (cmpD o2 y w) else ret (.bool bz)) st2) Q W := p2
  refine ⟨T, x, y, _, ok2.dom', r1.ext (ok1.extT e2), r2, hz, fun w' H3 rw' e3 => ⟨bz, rw'.bool_inv, ?_⟩⟩
  have e3' : Ext k.loc H2 H3 := .of_no e3
  have ok3 := ok2.next e3' (ok2.relNo e3)
  have p3 := PostE.from e3' p2
  cases bz with
  | false => exact PostE.ret p3 _ _ .mkBool .refl ok3.rel
  | true =>
    have p3 : PostE X k T σ H3 (bnd (ev c ρ) (fun w => lft (cmpD o2 y w)) st2) _ W := p3
    refine hc.then (((n.right.right.next (o.extT e1)).next (ok1.extT e2)).next (ok2.extT e3')) ok3 t p3 fun w st4 wv H4 r4 e4 ok4 p4 => ?_
    obtain ⟨d, hd, q⟩ := p4.there fun n l h => cmpD_nx h
    exact ⟨T, y, w, d, ok4.dom', (r2.ext (ok2.extT e3')).ext (ok3.extT e4), r4, hd, fun w H' rw' e' => q w H' rw' (.of_no e') (ok4.relNo e')⟩
theorem st_chain {o1 o2 : CmpOp} {ec : Expr} (w : X.A.units + 200 < cLine) (ha : SE X k a ea) (hb : SE X k b eb) (hc : SE X k c ec) (kb : okE eb = true) (kc : okE ec = true) : ST X k (.chain o1 o2 a b c) (.Compare ea [o1, o2] [eb, ec] pos) := fun T ρ st σ H Q W n o t p => by
  refine (pt_chain (op_cmpD (by omega) o1) (op_cmpD (by omega) o2) pe_w pe_w pe_w (by show behindInMarks o2 ec = false; exact mark_ok kc o2)).w ?_
  show tChain _ _ _ _ _ σ H fun x H' => ∃ c, x = .bl c ∧ Q c H'
  have e : ev (.chain o1 o2 a b c) ρ st = bnd (ev a ρ) (fun x => bnd (ev b ρ) fun y => bnd (lft (cmpD o1 x y)) fun z => if truthy z = true then bnd (ev c ρ) fun w => lft (cmpD o2 y w) else ret z) st := rfl
  have p : PostE X k T σ H (bnd (ev a ρ) (fun x => bnd (ev b ρ) fun y => bnd (lft (cmpD o1 x y)) fun z => if truthy z = true then bnd (ev c ρ) fun w => lft (cmpD o2 y w) else ret z) st) (fun v H' => ∃ c, v = .bl c ∧ Q c H') W := by
    rw [← e]
    unfold PostT at p
    unfold PostE
    cases hr : ev (.chain o1 o2 a b c) ρ st with
    | ok z =>
      rw [hr] at p
      obtain ⟨d, st'⟩ := z
      have hb : ∃ c, d = .bool c := by
        rw [e] at hr
        unfold bnd at hr
        obtain ⟨⟨x1, s1⟩, _, h2⟩ := bind_ok hr
        obtain ⟨⟨x2, s2⟩, _, h3⟩ := bind_ok h2
        obtain ⟨⟨x3, s3⟩, h4, h5⟩ := bind_ok h3
        unfold lft at h4
        obtain ⟨z, h6, h7⟩ := bind_ok h4
        cases h7
        obtain ⟨bz, rfl⟩ := cmpD_bool h6
        cases bz with
        | false => cases h5; exact ⟨_, rfl⟩
        | true =>
          obtain ⟨⟨x4, s4⟩, _, h8⟩ := bind_ok h5
          unfold lft at h8
          obtain ⟨z, h9, h10⟩ := bind_ok h8
          cases h10
          exact cmpD_bool h9
      obtain ⟨c, rfl⟩ := hb
      exact fun v H' r e k' => ⟨c, r.bool_inv, p H' e k'⟩
    | exc x l => rw [hr] at p; exact p
    | bad => rw [hr] at p; exact p
  refine ha.then n.left o t p fun x st1 v H1 r1 e1 ok1 p1 => ?_
  refine hb.then (n.right.left.next (o.extT e1)) ok1 t p1 fun y st2 u H2 r2 e2 ok2 p2 => ?_
  have hz : ∃ z, cmpD o1 x y = .ok z := by
    cases q : cmpD o1 x y with
    | ok z => exact ⟨z, rfl⟩
    | exc n l => exact (cmpD_nx q).elim
    | bad => rw [q] at p2; exact p2.elim
  obtain ⟨z, hz⟩ := hz
  rw [hz] at p2
  obtain ⟨bz, rfl⟩ := cmpD_bool hz
  have p2 : PostE X k T σ H2 ((if truthy (.bool bz) = true then bnd (ev c ρ) fun w => lft (cmpD o2 y w) else ret (.bool bz)) st2) _ W := p2
  refine ⟨T, x, y, _, ok2.dom', r1.ext (ok1.extT e2), r2, hz, fun w' H3 rw' e3 => ⟨bz, rw'.bool_inv, ?_⟩⟩
  have e3' : Ext k.loc H2 H3 := .of_no e3
  have ok3 := ok2.next e3' (ok2.relNo e3)
  have p3 := PostE.from e3' p2
  cases bz with
  | false => exact PostE.ret p3 _ _ .mkBool .refl ok3.rel
  | true =>
    have p3 : PostE X k T σ H3 (bnd (ev c ρ) (fun w => lft (cmpD o2 y w)) st2) _ W := p3
    refine hc.then (((n.right.right.next (o.extT e1)).next (ok1.extT e2)).next (ok2.extT e3')) ok3 t p3 fun w st4 wv H4 r4 e4 ok4 p4 => ?_
    obtain ⟨d, hd, q⟩ := p4.there fun n l h => cmpD_nx h
    exact ⟨T, y, w, d, ok4.dom', (r2.ext (ok2.extT e3')).ext (ok3.extT e4), r4, hd, fun w H' rw' e' => q w H' rw' (.of_no e') (ok4.relNo e')⟩

/-! ### calls -/
/-- nothing but what is tracked and may change -/
def DomM (T : Addr → Prop) (H : Hp) : Prop := ∀ a, T a → ∃ o, H a = some o ∧ Mut (some o)
/-- what a pure def promises -/
def spP (mg : Str → Option Value) (m : List PyData → R PyData) (n : Nat) : Sp := fun vs H Q E => vs.length = n ∧ ∃ T ds, DomM T H ∧ RepL T H ds vs ∧ (match m ds with
  | .ok d => ∀ v H', Rep T H' d v → Ext NoT H H' → Q v H'
  | .exc x l => ∀ cls dx H', XcIs mg x l cls dx H' → Ext NoT H H' → E cls dx H'
  | .bad => False)
structure GX where
  P : Program
  w : World
  K : PySem.W.Frag
  mg : Str → Option Value
  base : Heap
  A : Around
def gx (X : Cx) : GX := ⟨X.prog, X.w, X.K, X.mg, X.base, X.A⟩
/-- the name nm is a def that is m -/
def FnS (G : GX) (nm : Str) (m : List PyData → R PyData) (n : Nat) : Prop := ∃ (f : Addr) (fd : FuncData) (ps : List Str) (lv : Nat),
  FnOk G.P G.w G.K G.mg G.base (L2.CX G.P G.w) lv f fd ps (spP G.mg m n) ∧ Room lv G.A ∧ G.mg nm = some (.ref f) ∧ PySem.W.keepIn G.K (.ref f) = true ∧ Binds G.K fd ps []
def esLen {S : Type} : Es S → Nat
  | .nil => 0
  | .cons _ r => esLen r + 1
theorem evs_len : ∀ {r : Es S} {ρ : Env} {st : S} {ds : List PyData} {st' : S}, evs r ρ st = .ok (ds, st') → ds.length = esLen r
  | .nil, _, _, _, _, h => by cases h; rfl
  | .cons a r, ρ, st, ds, st', h => by
    simp only [evs] at h
    unfold bnd at h
    obtain ⟨⟨x, s1⟩, h1, h2⟩ := bind_ok h
    obtain ⟨⟨xs, s2⟩, h3, h4⟩ := bind_ok h2
    cases h4
    show xs.length + 1 = esLen r + 1
    rw [evs_len h3]
/-- the arguments, and that they are so many -/
theorem SA.thenN {es : List Expr} {cs : Es S} (h : SA X k cs es) {g : List PyData → M S PyData} {Q : List V → Hp → Prop} {Q' : VK} (n : EnvR X k T (fvs cs) ρ σ H) (o : Ok X k T st H) (t : Takes X W) (p : PostE X k T σ H (bnd (evs cs ρ) g st) Q' W)
    (q : ∀ d st' v H', d.length = esLen cs → RepL T H' d v → Ext k.loc H H' → Ok X k T st' H' → PostE X k T σ H' (g d st') Q' W → Q v H') : wA X es σ H Q := by
  refine h T ρ st σ H Q W n o t ?_
  unfold bnd R.bind at p
  unfold PostA
  cases hr : evs cs ρ st with
  | ok a =>
    obtain ⟨d, st'⟩ := a
    rw [hr] at p
    exact fun v H' r e k' => q d st' v H' (evs_len hr) r e (o.next e k') (PostE.from e p)
  | exc x l => rw [hr] at p; exact p
  | bad => rw [hr] at p; exact p
theorem se_call {nm : Str} {m : List PyData → R PyData} {es : List Expr} {e : Expr} {pn : Pos} {r : Es S} (hf : FnS (gx X) nm m (esLen r)) (hg : Gl X nm) (hdb : (nm == ("__debug__" : Str)) = false) (ha : SA X k r (e :: es)) (hk : (e :: es).all okE = true) :
    SE X k (.call nm m r) (.Call (.Name nm pn) (e :: es) [] pos) := fun T ρ st σ H Q W n o t p => by
  obtain ⟨f, fd, ps, lv, F, hr, hm, kp, hb⟩ := hf
  rw [List.all_cons, Bool.and_eq_true] at hk
  refine (pe_callS (E := WE W) F hr hg hm kp hb (fun σ => passAt t σ) pa_w hdb (star_cons hk.1 _ _) (back_ok _ _ hk.2)).w ?_
  refine ha.thenN n o t p fun ds st1 vs H1 hl r1 e1 o1 p1 => ?_
  refine ⟨by rw [← r1.length, hl], T, ds, o1.dom, r1, ?_⟩
  cases q : m ds with
  | ok d => rw [q] at p1; exact fun v H' rv' e' => PostE.ret p1 v H' rv' (.of_no e') (o1.relNo e')
  | exc x l => rw [q] at p1; exact fun cls dx H' hx e' => p1 cls dx H' hx (.of_no e')
  | bad => rw [q] at p1; exact p1
/-- .. with the state -/
def spS {S : Type} (mg : Str → Option Value) (k : SK S) (a : Addr) (m : List PyData → S → R (PyData × S)) (n : Nat) : Sp := fun vs H Q E => ∃ T ds st ws, vs = .ref a :: ws ∧ ws.length = n ∧ DomM T H ∧ (∀ b, k.loc b → T b) ∧ RepL T H ds ws ∧ k.rel st H ∧ (match m ds st with
  | .ok (d, st') => ∀ v H', Rep T H' d v → Ext k.loc H H' → k.rel st' H' → Q v H'
  | .exc x l => ∀ cls dx H', XcIs mg x l cls dx H' → Ext k.loc H H' → E cls dx H'
  | .bad => False)
def FnSS {S : Type} (G : GX) (k : SK S) (a : Addr) (nm : Str) (m : List PyData → S → R (PyData × S)) (n : Nat) : Prop := ∃ (f : Addr) (fd : FuncData) (ps : List Str) (lv : Nat),
  FnOk G.P G.w G.K G.mg G.base (L2.CX G.P G.w) lv f fd ps (spS G.mg k a m n) ∧ Room lv G.A ∧ G.mg nm = some (.ref f) ∧ PySem.W.keepIn G.K (.ref f) = true ∧ Binds G.K fd ps []
theorem se_callS {nm dn : Str} {i : Nat} {da : Addr} {m : List PyData → S → R (PyData × S)} {es : List Expr} {pn pd : Pos} {r : Es S} (hs : k.slot = some (i, da)) (hN : X.N[i]? = some dn) (hv : Vis X.env.scope dn) (hd1 : (dn == ("__debug__" : Str)) = false) (hd2 : (dn == ("__classdict__" : Str)) = false)
    (hf : FnSS (gx X) k da nm m (esLen r)) (hg : Gl X nm) (hdb : (nm == ("__debug__" : Str)) = false) (ha : SA X k r es) (hk : es.all okE = true) :
    SE X k (.callS nm m r) (.Call (.Name nm pn) (.Name dn pd :: es) [] pos) := fun T ρ st σ H Q W n o t p => by
  obtain ⟨f, fd, ps, lv, F, hr, hm, kp, hb⟩ := hf
  refine (pe_callS (E := WE W) F hr hg hm kp hb (fun σ => passAt t σ) (pa_cons (pe_var hN hv hd1 hd2) pa_w (star_cons (by rfl) _ _)) hdb (star_cons (by rfl) _ _) (back_ok _ _ hk)).w ?_
  refine ⟨.ref da, n.ds _ hs, ?_⟩
  refine ha.thenN n o t p fun ds st1 vs H1 hl r1 e1 o1 p1 => ?_
  refine ⟨T, ds, st1, vs, rfl, by rw [← r1.length, hl], o1.dom, o1.loc, r1, o1.rel, ?_⟩
  cases q : m ds st1 with
  | ok d => rw [q] at p1; exact fun v H' rv' e' re' => p1 v H' rv' e' re'
  | exc x l => rw [q] at p1; exact fun cls dx H' hx e' => p1 cls dx H' hx e'
  | bad => rw [q] at p1; exact p1
/-! ### built-in functions -/
theorem blt_end {f : B} {es : List Expr} {r : Es S} (ha : SA X k r es) {Q : VK} (n : EnvR X k T (fvs r) ρ σ H) (o : Ok X k T st H) (t : Takes X W) (p : PostE X k T σ H (bnd (evs r ρ) (fun xs => lft (bltD f xs)) st) Q W) : wA X es σ H fun vs H1 => rBlt X f vs H1 Q := by
  refine ha.then n o t p fun ds st1 vs H1 r1 e1 o1 p1 => ?_
  obtain ⟨d, hd, q⟩ := p1.there fun n l => bltD_nx
  exact ⟨T, ds, d, o1.dom', r1, hd, fun w H' rw' e' => q w H' rw' (.of_no e') (o1.relNo e')⟩
/-- the name under which a built-in function stands -/
def bltName : B → Option (String × Bool)
  | .len => some ("len", false) | .tuple_ => some ("tuple", true) | .list_ => some ("list", true) | .sorted => some ("sorted", false) | .all_ => some ("all", false) | .any_ => some ("any", false)
  | .int_ => some ("int", true) | .sum => some ("sum", false) | .min1 => some ("min", false) | .max1 => some ("max", false) | .min2 => some ("min", false) | .max2 => some ("max", false)
  | .abs => some ("abs", false) | .str_ => some ("str", true)
  | _ => none
theorem se_blt {f : B} {nm : String} {ty : Bool} {es : List Expr} {e : Expr} {pn : Pos} {r : Es S} (w : X.A.units + 200 < cLine) (hc : X.calm = true) (hf : bltName f = some (nm, ty)) (hg : Gl X (Str.ofString nm)) (hm : X.mg (Str.ofString nm) = none) (ha : SA X k r (e :: es)) (hk : (e :: es).all okE = true) :
    SE X k (.blt f r) (.Call (.Name (Str.ofString nm) pn) (e :: es) [] pos) := fun T ρ st σ H Q W n o t p => by
  rw [List.all_cons, Bool.and_eq_true] at hk
  have h1 : starEach (e :: es) X.env = (false, eval e X.env) :: starEach es X.env := star_cons hk.1 _ _
  have h2 : (backTo pos (starEach es X.env)).any (·.1) = false := back_ok _ _ hk.2
  have fin := blt_end (f := f) ha n o t p
  cases f with
  | len => cases hf; exact (pe_callB blt_len hg hm (by decide +kernel) pa_w (by decide) (by decide) h1 h2).w fin
  | sorted => cases hf; exact (pe_callB (blt_sorted (by omega)) hg hm (by decide +kernel) pa_w (by decide) (by decide) h1 h2).w fin
  | all_ => cases hf; exact (pe_callB (blt_all hc) hg hm (by decide +kernel) pa_w (by decide) (by decide) h1 h2).w fin
  | any_ => cases hf; exact (pe_callB (blt_any hc) hg hm (by decide +kernel) pa_w (by decide) (by decide) h1 h2).w fin
  | sum => cases hf; exact (pe_callB (blt_sum hc) hg hm (by decide +kernel) pa_w (by decide) (by decide) h1 h2).w fin
  | min1 => cases hf; exact (pe_callB (blt_min1 (by omega) hc) hg hm (by decide +kernel) pa_w (by decide) (by decide) h1 h2).w fin
  | max1 => cases hf; exact (pe_callB (blt_max1 (by omega) hc) hg hm (by decide +kernel) pa_w (by decide) (by decide) h1 h2).w fin
  | min2 => cases hf; exact (pe_callB (blt_min2 hc) hg hm (by decide +kernel) pa_w (by decide) (by decide) h1 h2).w fin
  | max2 => cases hf; exact (pe_callB (blt_max2 hc) hg hm (by decide +kernel) pa_w (by decide) (by decide) h1 h2).w fin
  | abs => cases hf; exact (pe_callB blt_abs hg hm (by decide +kernel) pa_w (by decide) (by decide) h1 h2).w fin
  | tuple_ => cases hf; exact (pe_callTy blt_tuple hg hm (by decide +kernel) pa_w (by decide) (by decide) h1 h2).w fin
  | list_ => cases hf; exact (pe_callTy blt_list hg hm (by decide +kernel) pa_w (by decide) (by decide) h1 h2).w fin
  | int_ => cases hf; exact (pe_callTy blt_int hg hm (by decide +kernel) pa_w (by decide) (by decide) h1 h2).w fin
  | str_ => cases hf; exact (pe_callTy blt_str hg hm (by decide +kernel) pa_w (by decide) (by decide) h1 h2).w fin
  | _ => cases hf
theorem se_isa {ty : Ty} {pi pt : Pos} (hg : Gl X "isinstance") (hm : X.mg "isinstance" = none) (hg2 : Gl X (Str.ofString (tyName ty))) (hm2 : X.mg (Str.ofString (tyName ty)) = none) (ha : SE X k a ea) (hk : okE ea = true) :
    SE X k (.isa ty a) (.Call (.Name "isinstance" pi) [ea, .Name (Str.ofString (tyName ty)) pt] [] pos) := fun T ρ st σ H Q W n o t p => by
  have h1 : starEach [ea, .Name (Str.ofString (tyName ty)) pt] X.env = (false, eval ea X.env) :: starEach [.Name (Str.ofString (tyName ty)) pt] X.env := star_cons hk _ _
  have h2 : (backTo pos (starEach [.Name (Str.ofString (tyName ty)) pt] X.env)).any (·.1) = false := back_ok _ _ (by rfl)
  have ht : PE X (.Name (Str.ofString (tyName ty)) pt) (tC (.ty (tyName ty))) := by
    cases ty with
    | int => exact pe_bltn hg2 hm2 (u := .type "int") (by decide +kernel) rfl (by decide) (by decide)
    | bool => exact pe_bltn hg2 hm2 (u := .type "bool") (by decide +kernel) rfl (by decide) (by decide)
    | str => exact pe_bltn hg2 hm2 (u := .type "str") (by decide +kernel) rfl (by decide) (by decide)
    | tuple => exact pe_bltn hg2 hm2 (u := .type "tuple") (by decide +kernel) rfl (by decide) (by decide)
    | list => exact pe_bltn hg2 hm2 (u := .type "list") (by decide +kernel) rfl (by decide) (by decide)
    | dict => exact pe_bltn hg2 hm2 (u := .type "dict") (by decide +kernel) rfl (by decide) (by decide)
  refine (pe_callB (blt_isa ty) hg hm (by decide +kernel) (pa_cons pe_w (pa_cons ht pa_nil (star_cons (by rfl) _ _)) h1) (by decide) (by decide) h1 h2).w ?_
  refine ha.then n o t p fun d st1 v H1 r1 e1 o1 p1 => ?_
  exact ⟨T, d, v, rfl, r1, PostE.ret p1 _ _ .mkBool .refl o1.rel⟩

/-! ### other reading forms -/
theorem op1D_nx {f : O1} {x : PyData} {n : Str} {l : List PyData} (h : op1D f x = .exc n l) : False := by
  unfold op1D at h
  split at h <;> first | (cases h; done) | (split at h <;> cases h)
theorem op2D_nx {f : O2} {x y : PyData} {n : Str} {l : List PyData} (h : op2D f x y = .exc n l) : False := by
  unfold op2D at h
  split at h <;> first | (cases h; done) | (split at h <;> first | (cases h; done) | (split at h <;> cases h))
theorem PostF.from {r : R (PyData × S)} {Q : VK} {H1 : Hp} (x0 : ∀ a, H1 a = Option.none → H a = Option.none) (e : Ext k.loc H H1) (h : PostF X k T σ H r Q W) : PostF X k T σ H1 r Q W := by
  unfold PostF at h ⊢
  match r, h with
  | .ok (d, st), h => exact fun a H' ha b c d e2 => h a H' (x0 a ha) b c (e.trans d) e2
  | .exc x l, h => exact fun v dx H' a b => h v dx H' a (e.trans b)
  | .bad, h => exact h
theorem Ok.x0 (o : Ok X k T st H) {st' : S} {H1 : Hp} (e : Ext k.loc H H1) (r : k.rel st' H1) : ∀ a, H1 a = Option.none → H a = Option.none := fun a h => by
  cases q : H a with
  | none => rfl
  | some u =>
    by_cases l : k.loc a
    · obtain ⟨xs, z⟩ := k.there _ _ a r l
      rw [h] at z; cases z
    · rw [e a u l q] at h; cases h
theorem PostF.there {r : R PyData} {Q : VK} (p : PostF X k T σ H (lft r st) Q W) (o : Ok X k T st H) (nx : ∀ n l, r ≠ .exc n l) : ∃ d, r = .ok d ∧ AnsF T d Q H := by
  cases r with
  | ok d => exact ⟨d, rfl, fun a H' ha w e => p a H' ha (o.none ha) w (.of_no e) (o.relNo e)⟩
  | exc x l => exact (nx _ _ rfl).elim
  | bad => exact p.elim
theorem SE.thenF (h : SE X k c e) {g : PyData → M S PyData} {Q Q' : VK} (n : EnvR X k T (fv c) ρ σ H) (o : Ok X k T st H) (t : Takes X W) (p : PostF X k T σ H (bnd (ev c ρ) g st) Q' W)
    (q : ∀ d st' v H', Rep T H' d v → Ext k.loc H H' → Ok X k T st' H' → PostF X k T σ H' (g d st') Q' W → Q v H') : wE X e σ H Q := by
  refine h T ρ st σ H Q W n o t ?_
  unfold bnd R.bind at p
  unfold PostE
  cases hr : ev c ρ st with
  | ok a =>
    obtain ⟨d, st'⟩ := a
    rw [hr] at p
    exact fun v H' r e k' => q d st' v H' r e (o.next e k') (PostF.from (o.x0 e k') e p)
  | exc x l => rw [hr] at p; exact p
  | bad => rw [hr] at p; exact p
/-- what a form of one part reads -/
theorem op1_read {f : O1} (ha : SE X k a ea) {Q : VK} (n : EnvR X k T (fv a) ρ σ H) (o : Ok X k T st H) (t : Takes X W) (p : PostE X k T σ H (bnd (ev a ρ) (fun x => lft (op1D f x)) st) Q W) : wE X ea σ H fun v H1 => ∃ T x d, Dom T H1 ∧ Rep T H1 x v ∧ op1D f x = .ok d ∧ ansOf X (fr1 f) T d Q H1 := by
  refine ha.then n o t p fun x st1 v H1 r1 e1 o1 p1 => ?_
  obtain ⟨d, hd, q⟩ := p1.there fun n l => op1D_nx
  exact ⟨T, x, d, o1.dom', r1, hd, Ans.of (X := X) (fun w H' rw' e' => q w H' rw' (.of_no e') (o1.relNo e')) o1.dom'⟩
theorem op1_readF {f : O1} (ha : SE X k a ea) (hf : fr1 f = true) {Q : VK} (n : EnvR X k T (fv a) ρ σ H) (o : Ok X k T st H) (t : Takes X W) (p : PostF X k T σ H (bnd (ev a ρ) (fun x => lft (op1D f x)) st) Q W) : wE X ea σ H fun v H1 => ∃ T x d, Dom T H1 ∧ Rep T H1 x v ∧ op1D f x = .ok d ∧ ansOf X (fr1 f) T d Q H1 := by
  refine ha.thenF n o t p fun x st1 v H1 r1 e1 o1 p1 => ?_
  obtain ⟨d, hd, q⟩ := p1.there o1 fun n l => op1D_nx
  refine ⟨T, x, d, o1.dom', r1, hd, ?_⟩
  unfold ansOf
  rw [if_pos hf]
  exact q
/-- the form f of the part ea is e -/
def Is1 (X : Cx) (f : O1) (ea e : Expr) : Prop := PE X e (tOp1 X f (wE X ea))
theorem se_op1 {f : O1} (h : Is1 X f ea e) (ha : SE X k a ea) : SE X k (.op1 f a) e := fun T ρ st σ H Q W n o t p => (show PE X e _ from h).w (op1_read ha n o t p)
theorem sf_op1 {f : O1} (h : Is1 X f ea e) (hf : fr1 f = true) (ha : SE X k a ea) : ∀ (T : Addr → Prop) (ρ : Env) (st : S) (σ : L2.St) (H : Hp) (Q : VK) (W : WX), EnvR X k T (fv (.op1 f a : E S)) ρ σ H → Ok X k T st H → Takes X W → PostF X k T σ H (ev (.op1 f a) ρ st) Q W → wE X e σ H Q := fun T ρ st σ H Q W n o t p => (show PE X e _ from h).w (op1_readF ha hf n o t p)
theorem is_rev {p p2 pos pos2 : Pos} (hc : X.calm = true) (hg : Gl X "list") (hm : X.mg "list" = none) (hg2 : Gl X "reversed") (hm2 : X.mg "reversed" = none) (hk : okE ea = true) : Is1 X .rev ea (.Call (.Name "list" p) [.Call (.Name "reversed" p2) [ea] [] pos2] [] pos) := by
  refine ⟨fun pins s σ H Q I h => ?_⟩
  refine (pe_listRev hc hg hm hg2 hm2 pe_w (star_cons hk _ _)).run pins s σ H Q I ?_
  refine wE.mono h fun v H1 ⟨T, x, d, dm, hx, hd, a⟩ => ?_
  unfold op1D at hd
  split at hd
  · rename_i ds _
    cases hd
    obtain ⟨q, xs, rfl, n, hp, z, rr⟩ := hx.list_inv
    refine ⟨q, xs, rfl, .of hp, fun r hr => a r _ hr ⟨xs.reverse, upd_same, by rw [List.length_reverse]; exact z, ?_⟩ (Ext.laid hr)⟩
    exact RepL.mv (mvP hr) _ _ rr.reverse
  · rename_i h; cases h
  · rename_i h; cases h
  · cases hd
theorem is_dictOf {p pos : Pos} (hc : X.calm = true) (hg : Gl X "dict") (hm : X.mg "dict" = none) (hk : okE ea = true) : Is1 X .dictOf ea (.Call (.Name "dict" p) [ea] [] pos) := by
  have h1 : starEach [ea] X.env = (false, eval ea X.env) :: starEach [] X.env := star_cons hk _ _
  refine ⟨fun pins s σ H Q I h => ?_⟩
  refine (pe_callTy (op1_dictOf hc) hg hm (by decide +kernel) (pa_cons pe_w pa_nil h1) (by decide) (by decide) h1 rfl).run pins s σ H Q I ?_
  exact wE.mono h fun v H1 ⟨T, x, d, dm, hx, hd, a⟩ => ⟨T, x, v, d, rfl, dm, hx, hd, a⟩
/-- .. of two parts -/
def Is2 (X : Cx) (f : O2) (ea eb e : Expr) : Prop := PE X e (tOp2 X f (wE X ea) (wE X eb))
theorem se_op2 {f : O2} (h : Is2 X f ea eb e) (ha : SE X k a ea) (hb : SE X k b eb) : SE X k (.op2 f a b) e := fun T ρ st σ H Q W n o t p => by
  refine (show PE X e _ from h).w ?_
  have p : PostE X k T σ H (bnd (ev a ρ) (fun x => if ok2 f x = true then bnd (ev b ρ) fun y => lft (op2D f x y) else lft .bad) st) Q W := p
  refine ha.then n.left o t p fun x st1 v H1 r1 e1 o1 p1 => ?_
  by_cases hx : ok2 f x = true
  · rw [if_pos hx] at p1
    refine ⟨⟨T, x, r1, hx⟩, ?_⟩
    refine hb.then (n.right.next (o.extT e1)) o1 t p1 fun y st2 u H2 r2 e2 o2 p2 => ?_
    obtain ⟨d, hd, q⟩ := p2.there fun n l => op2D_nx
    exact ⟨T, x, y, d, o2.dom', r1.ext (o1.extT e2), r2, hd, fun w H' rw' e' => q w H' rw' (.of_no e') (o2.relNo e')⟩
  · rw [if_neg hx] at p1; exact p1.elim
def baseOk : Expr → Bool
  | .Call .. => false
  | _ => true
theorem base_ok {e : Expr} {m : Str} {env : PySem.Env} (h : baseOk e = true) : attributeBase e m env (eval e env) = eval e env := by cases e <;> first | rfl | cases h
theorem is_sindex {ap pos : Pos} (hk : okE eb = true) (hbs : baseOk ea = true) (hl : (ap.endLine == pos.line) = true) : Is2 X .sindex ea eb (.Call (.Attribute ea "index" ap) [eb] [] pos) := by
  have h1 : starEach [eb] X.env = (false, eval eb X.env) :: starEach [] X.env := star_cons hk _ _
  refine ⟨fun pins s σ H Q I h => ?_⟩
  refine (pe_bm PySem.F.plainAttrs_str PySem.F.slot_str_index PySem.F.type_str_index op2_sindex pe_w (pa_cons pe_w pa_nil h1) (base_ok hbs) (by rw [h1]; rfl) hl h1 rfl).run pins s σ H Q I ?_
  refine wE.mono h fun v H1 ⟨⟨T, x, rx, hx⟩, q⟩ => ⟨?_, wE.mono q fun u H2 q2 => ⟨u, rfl, q2⟩⟩
  cases x with
  | str z => rw [rx.str_inv.1]; rfl
  | _ => cases hx

theorem is_lindex {ap pos : Pos} (hk : okE eb = true) (hbs : baseOk ea = true) (hl : (ap.endLine == pos.line) = true) : Is2 X .lindex ea eb (.Call (.Attribute ea "index" ap) [eb] [] pos) := by
  have h1 : starEach [eb] X.env = (false, eval eb X.env) :: starEach [] X.env := star_cons hk _ _
  refine ⟨fun pins s σ H Q I h => ?_⟩
  refine (pe_bm PySem.F.plainAttrs_list PySem.F.slot_list_index PySem.F.type_list_index op2_lindex pe_w (pa_cons pe_w pa_nil h1) (base_ok hbs) (by rw [h1]; rfl) hl h1 rfl).run pins s σ H Q I ?_
  refine wE.mono h fun v H1 ⟨⟨T, x, rx, hx⟩, q⟩ => ⟨?_, wE.mono q fun u H2 q2 => ⟨u, rfl, q2⟩⟩
  cases x with
  | list z => obtain ⟨p, xs, rfl, n, hp, _⟩ := rx.list_inv; exact .inl ⟨rfl, xs, .of hp⟩
  | _ => cases hx
/-! ### one of some defs -/
def PickOk (G : GX) (m : List PyData → R PyData) (n : Nat) (f : Addr) : Prop := ∃ (fd : FuncData) (ps : List Str) (lv : Nat),
  FnOk G.P G.w G.K G.mg G.base (L2.CX G.P G.w) lv f fd ps (spP G.mg m n) ∧ Room lv G.A ∧ PySem.W.keepIn G.K (.ref f) = true ∧ Binds G.K fd ps []
def NeedPk (G : GX) (n : Nat) : List (Str × (List PyData → R PyData)) → Prop
  | [] => True
  | p :: r => FnS G p.1 p.2 n ∧ NeedPk G n r
/-- the names are those of the defs -/
inductive PkNs (X : Cx) : List (Str × (List PyData → R PyData)) → List Expr → Prop
  | nil : PkNs X [] []
  | cons {x : Str} {m : List PyData → R PyData} {p : Pos} {fs : List (Str × (List PyData → R PyData))} {es : List Expr} (hg : Gl X x) (hd : (x == ("__debug__" : Str)) = false) (r : PkNs X fs es) : PkNs X ((x, m) :: fs) (.Name x p :: es)
theorem pk_ok {n : Nat} : ∀ {fs : List (Str × (List PyData → R PyData))} {es : List Expr}, PkNs X fs es → NeedPk (gx X) n fs → ∃ vs : List V, (∀ (σ : L2.St) (H : Hp) (Q : List V → Hp → Prop), Q vs H → wA X es σ H Q) ∧ vs.length = fs.length ∧ ∀ (i : Nat) p, fs[i]? = some p → ∃ f, vs[i]? = some (.ref f) ∧ PickOk (gx X) p.2 n f
  | _, _, .nil, _ => ⟨[], fun σ H Q q => pa_nil.w q, rfl, fun i p h => by simp at h⟩
  | _, _, .cons (x := x) (m := m) hg hd r, ⟨⟨f, fd, ps, lv, F, hr, hm, kp, hb⟩, nd⟩ => by
    obtain ⟨vs, h1, h2, h3⟩ := pk_ok r nd
    refine ⟨.ref f :: vs, fun σ H Q q => (pa_cons (pe_glob hg hm (show L2.RelV (V.ref f) (Value.ref f) from rfl) hd) pa_w).w (h1 σ H _ q), congrArg Nat.succ h2, fun i p h => ?_⟩
    cases i with
    | zero => cases h; exact ⟨f, rfl, fd, ps, lv, F, hr, kp, hb⟩
    | succ i => exact h3 i p h
theorem pickD_some {fs : List (Str × (List PyData → R PyData))} {d : PyData} {p : Str × (List PyData → R PyData)} (h : pickD fs d = some p) : ∃ z : Int, d = .int z ∧ 0 ≤ z ∧ fs[z.toNat]? = some p := by
  unfold pickD at h
  split at h
  · rename_i z
    split at h
    · rename_i hz; exact ⟨z, rfl, hz, h⟩
    · cases h
  · cases h
theorem se_pick {fs : List (Str × (List PyData → R PyData))} {ns es : List Expr} {e : Expr} {p1 p2 : Pos} {i : E S} {ei : Expr} {r : Es S} (hn : PkNs X fs ns) (nd : NeedPk (gx X) (esLen r) fs) (hl : fs.length ≤ 1000) (hi : SE X k i ei) (hki : okE ei = true) (ha : SA X k r (e :: es)) (hk : (e :: es).all okE = true) :
    SE X k (.pick fs i r) (.Call (.Subscript (.List ns p1) ei p2) (e :: es) [] pos) := fun T ρ st σ H Q W n o t p => by
  intro pins s I
  obtain ⟨vs, v1, v2, v3⟩ := pk_ok hn nd
  have p : PostE X k T σ H (bnd (ev i ρ) (fun x => match pickD fs x with
    | some p => bnd (evs r ρ) fun xs => lft (p.2 xs)
    | none => lft .bad) st) Q W := p
  have hk' := hk
  rw [List.all_cons, Bool.and_eq_true] at hk'
  have pf := pe_ix (pos := p2) (X := X) (ix_list (X := X)) (pe_lst (pos := p1) (pa_w (X := X) (es := ns))) (pe_w (X := X) (e := ei)) (ix_ok hki)
  refine Call_ (thn (pf.run pins s σ H (fun w H2 => ∃ f m, w = .ref f ∧ PickOk (gx X) m (esLen r) f ∧ wA X (e :: es) σ H2 fun vs H3 => spP X.mg m (esLen r) vs H3 Q (WE W σ)) I ?_) fun u s1 ⟨y, H1, I1, ry, f, m, ey, ⟨fd, ps, lv, F, hr, kp, hb⟩, q⟩ => ?_) (by rfl)
  · refine v1 σ H _ ⟨by rw [v2]; show _ ≤ 2 ^ 24; omega, fun a0 ha0 => ?_⟩
    have e0 : Ext k.loc H (upd H a0 (.lst vs)) := .laid ha0
    have o0 : Ok X k T st (upd H a0 (.lst vs)) := o.next e0 (k.keep _ _ _ o.rel fun b hb => by
      refine upd_ne fun z => ?_
      obtain ⟨xs, hx⟩ := k.there _ _ b o.rel hb
      rw [z, ha0] at hx; cases hx)
    refine hi.then (n.left.next (o.extT e0)) o0 t (p.from e0) fun d st1 v H1 r1 e1 o1 p1 => ?_
    cases hp : pickD fs d with
    | none =>
      have p1 : PostE X k T σ H1 ((match pickD fs d with
        | some p => bnd (evs r ρ) fun xs => lft (p.2 xs)
        | none => lft .bad) st1) Q W := p1
      rw [hp] at p1
      exact p1.elim
    | some fm =>
      obtain ⟨z, rfl, hz, hp'⟩ := pickD_some hp
      have p1 : PostE X k T σ H1 ((match pickD fs (.int z) with
        | some p => bnd (evs r ρ) fun xs => lft (p.2 xs)
        | none => lft .bad) st1) Q W := p1
      rw [hp] at p1
      have p1 : PostE X k T σ H1 (bnd (evs r ρ) (fun xs => lft (fm.2 xs)) st1) Q W := p1
      obtain ⟨f, hf, pk⟩ := v3 _ _ hp'
      have hH : H1 a0 = some (.lst vs) := e1 a0 _ (fun l => o.none ha0 (o.loc _ l)) (upd_same ..)
      refine ⟨a0, vs, z, .ref f, rfl, r1.int_inv, .of hH, ?_, f, fm.2, rfl, pk, ?_⟩
      · rw [← Int.toNat_of_nonneg hz]; exact L2.atI_nat hf
      · refine ha.thenN (n.right.next ((o.extT e0).trans (o0.extT e1))) o1 t p1 fun ds st2 vs2 H2 hl2 r2 e2 o2 p2 => ?_
        refine ⟨by rw [← r2.length, hl2], T, ds, o2.dom, r2, ?_⟩
        cases q : fm.2 ds with
        | ok d2 => rw [q] at p2; exact fun v H' rv' e' => PostE.ret p2 v H' rv' (.of_no e') (o2.relNo e')
        | exc x l => rw [q] at p2; exact fun cls dx H' hx e' => p2 cls dx H' hx (.of_no e')
        | bad => rw [q] at p2; exact p2
  · subst ey
    obtain rfl : u = Value.ref f := ry
    refine PySem.W.callWith_K (h₀ := X.base) I1.ok.mod.kin kp (thn ((pa_w (X := X)).run pos pins s1 σ H1 _ I1 q) fun us s2 ⟨vs, H2, I2, r, q2⟩ => ⟨I2.kIn, ?_⟩) (star_cons hk'.1 _ _) (back_ok _ _ hk'.2)
    exact run_fnS (E := WE W) F hr hb (passAt t σ) I2 r q2

/-! ### a number of a dict of the module -/
def GDictOk (G : GX) (x : Str) (kvs : List (Int × Int)) : Prop := ∃ a, G.mg x = some (.ref a) ∧ kdiB G.K a kvs = true
theorem subGD_nx {kvs : List (Int × Int)} {x : PyData} {n : Str} {l : List PyData} (h : subGD kvs x = .exc n l) : False := by
  unfold subGD at h
  split at h <;> first | (cases h; done) | (split at h <;> cases h)
theorem se_subG {x : Str} {kvs : List (Int × Int)} {p1 : Pos} (hg : Gl X x) (hd : (x == ("__debug__" : Str)) = false) (h : GDictOk (gx X) x kvs) (ha : SE X k a ea) (hk : okE ea = true) : SE X k (.subG x kvs a) (.Subscript (.Name x p1) ea pos) := fun T ρ st σ H Q W n o t p => by
  obtain ⟨ad, hm, hb⟩ := h
  refine (pe_ix (r := rIxI X kvs) ix_kdi (pe_glob hg hm (v := V.ref ad) rfl hd) pe_w (ix_ok hk)).w ?_
  show wE X ea σ H fun y H2 => rIxI X kvs (.ref ad) y H2 Q
  refine ha.then n o t p fun d st1 v H1 r1 e1 o1 p1 => ?_
  obtain ⟨r, hr, q⟩ := p1.there fun n l => subGD_nx
  exact ⟨ad, T, d, r, rfl, hb, r1, hr, fun w H' rw' e' => q w H' rw' (.of_no e') (o1.relNo e')⟩

/-! ### len(set(x)) -/
theorem once_map : ∀ (ks acc : List Key), (ks.map kD).foldl (fun a d => if a.any (fun x => PyData.eqv x d) = true then a else a ++ [d]) (acc.map kD) = (onceK acc ks).map kD
  | [], acc => rfl
  | k :: ks, acc => by
    rw [List.map_cons, List.foldl_cons]
    have e : ((acc.map kD).any fun x => PyData.eqv x (kD k)) = acc.any fun x => decide (x = k) := by
      rw [List.any_map]
      congr 1
      funext x
      exact kD_eqv x k
    rw [e]
    show _ = (onceK (if acc.any (fun x => decide (x = k)) = true then acc else acc ++ [k]) ks).map kD
    rw [← once_map ks]
    congr 1
    split <;> simp
theorem is_lenSet {p p2 pos pos2 : Pos} (hc : X.calm = true) (hg : Gl X "len") (hm : X.mg "len" = none) (hg2 : Gl X "set") (hm2 : X.mg "set" = none) (hk : okE ea = true) : Is1 X .lenSet ea (.Call (.Name "len" p) [.Call (.Name "set" p2) [ea] [] pos2] [] pos) := by
  have na : starEach [ea] X.env = (false, eval ea X.env) :: starEach [] X.env := star_cons hk _ _
  refine ⟨fun pins s σ H Q I h => ?_⟩
  refine Call_ (ld_blt I hg hm PySem.boot_len (PyProof.Rows.callWith_builtin1 (PyProof.Rows.args_cons (Call_ (ld_blt I hg2 hm2 PyProof.Rows.boot_set (PyProof.Rows.callWith_type1 (PyProof.Rows.args_cons (thn (pe_w.run pins s σ H _ I h) fun v s1 hv => PyProof.Rows.args_nil ?_) na) na rfl))) rfl) rfl rfl))
  obtain ⟨x, H1, I1, r1, T, dx, d, dm, hx, hd, a⟩ := hv
  unfold op1D at hd
  split at hd
  · rename_i e; cases e
  · rename_i e; cases e
  · rename_i ds _
    split at hd
    · rename_i hz
      cases hd
      obtain ⟨l, xs, rfl, n, hp, z, rr⟩ := hx.list_inv
      obtain rfl : v = Value.ref l := r1
      obtain ⟨ks, rfl, rfl⟩ := keyD_all hz.1 rr
      obtain ⟨its, rv, pl, _⟩ := I1.list (.of hp)
      have hl : its.length = ks.length := by rw [← rv.length, List.length_map]
      have hlk : ks.length ≤ 4000 := by simpa using hz.2
      have once : onceD (ks.map kD) = (onceK [] ks).map kD := once_map ks []
      refine call_set_keys (I1.ok.hd hc) pl.isList (fun j k w hj hw => ?_) hl (by unfold scanBound; omega) fun h' tk hS hkp => ?_
      · obtain ⟨u, hu, ru⟩ := rv.get (i := j) (x := kV k) (by simp [hj])
        rw [hw] at hu; cases hu
        exact kV_is (P := X.prog) (w := X.w) ru
      · refine PyProof.Rows.args_nil ?_
        obtain ⟨o, es, ep, t, ho, hex, hd, _, _, _, hf, hn⟩ := hS
        have hon := onceK_len ks []
        have I2 : Inv X pins σ H1 { s1 with heap := h', toks := tk } := I1.kept fun b o e => hkp b o (Heap.lt_size e) e
        refine call_len_set ho hex hd hf (by rw [hn]; simp at hon; omega) ⟨.int ((onceK [] ks).length : Nat), H1, I2.tok _, ⟨_, by rw [hn]⟩, ?_⟩
        have a : Ans X T (.int ((onceD (ks.map kD)).length : Nat)) Q H1 := a
        rw [once, List.length_map] at a
        exact a _ _ .mkInt .refl
    · cases hd
  · cases hd
end
end Mir

set_option Elab.async false
set_option linter.all false
set_option maxRecDepth 100000
set_option maxHeartbeats 4000000
/-! Mir, part G: targets, what is walked, comprehensions. -/
namespace Mir
open PySem PySem.Spec PyProof.Rows L2

/-! ### targets -/
def tgs : Tg → List Nat
  | .nm i => [i]
  | .tup is => is
def setAllS : List Nat → List V → L2.St → L2.St
  | i :: is, v :: vs, σ => setAllS is vs (σ.set i (some v))
  | _, _, σ => σ
def wG (X : Cx) (e : Expr) : TG := fun v σ H Q => ∀ (pins : List (Addr × Obj)) (s : Shared) (u : Value), Inv X pins σ H s → RelV v u →
  wpAny (model X.prog X.w) X.A (assign e X.env u) (fun _ s' => ∃ σ' H', Inv X pins σ' H' s' ∧ Q σ' H') X.xe s
theorem pg_w {X : Cx} {e : Expr} : PG X e (wG X e) := ⟨fun pins s σ H v u Q I r h => h pins s u I r⟩
theorem _root_.L2.PG.w {X : Cx} {e : Expr} {t : TG} {v : V} {σ : L2.St} {H : Hp} {Q : L2.St → Hp → Prop} (h : PG X e t) (q : t v σ H Q) : wG X e v σ H Q := fun pins s u I r => h.run pins s σ H v u Q I r q
/-- a name that may be stored, in slot i -/
def TgN (X : Cx) (i : Nat) (e : Expr) : Prop := ∃ x pos, e = .Name x pos ∧ X.N[i]? = some x ∧ Loc X.env.scope x ∧ (X.fn x = true ∨ X.env.scope.names.lookup x = some .local)
theorem TgN.pg {X : Cx} {i : Nat} {e : Expr} (h : TgN X i e) (nd : X.N.Nodup) : PG X e (gName i) := by
  obtain ⟨x, pos, rfl, h1, h2, h3⟩ := h
  exact pg_name nd h1 h2 h3
def TgNs (X : Cx) : List Nat → List Expr → Prop
  | [], [] => True
  | i :: is, e :: es => TgN X i e ∧ TgNs X is es
  | _, _ => False
/-- the target tg is e -/
def TgOk (X : Cx) : Tg → Expr → Prop
  | .nm i, e => TgN X i e
  | .tup is, .Tuple es _ _ => TgNs X is es
  | _, _ => False
theorem name_each {x : Str} {pos : Pos} {es : List Expr} {env : PySem.Env} : assignEach (.Name x pos :: es) env = (false, assign (.Name x pos) env) :: assignEach es env := rfl
def gNames : List Nat → TGs
  | [] => gNil
  | i :: is => gCons (gName i) (gNames is)
theorem TgNs.pgs {X : Cx} (nd : X.N.Nodup) : ∀ {is : List Nat} {es : List Expr}, TgNs X is es → PGs X es (gNames is) ∧ (assignEach es X.env).length = is.length ∧ (assignEach es X.env).findIdx? (·.1) = none
  | [], [], _ => ⟨pgs_nil, rfl, rfl⟩
  | i :: is, e :: es, h => by
    obtain ⟨h1, h2⟩ := h
    obtain ⟨a, b, c⟩ := TgNs.pgs nd h2
    have hp := h1.pg nd
    obtain ⟨x, pos, rfl, _⟩ := h1
    refine ⟨pgs_cons hp a (by rw [name_each]; rfl), by rw [name_each]; simp [b], ?_⟩
    rw [name_each, List.findIdx?_cons, c]
    rfl
  | [], _ :: _, h => h.elim
  | _ :: _, [], h => h.elim
theorem gNames_ok {Q : L2.St → Hp → Prop} {H : Hp} : ∀ {is : List Nat} {vs : List V} {σ : L2.St}, is.length = vs.length → Q (setAllS is vs σ) H → gNames is vs σ H Q
  | [], [], σ, _, h => ⟨rfl, h⟩
  | i :: is, v :: vs, σ, hl, h => ⟨v, vs, rfl, gNames_ok (by simpa using hl) h⟩
  | [], _ :: _, _, h, _ => nomatch h
  | _ :: _, [], _, h, _ => nomatch h
theorem sg {X : Cx} {T : Addr → Prop} {tg : Tg} {e : Expr} {d : PyData} {ρ ρ' : Env} {x : V} {σ : L2.St} {H : Hp} {Q : L2.St → Hp → Prop} (nd : X.N.Nodup) (hc : X.calm = true) (h : TgOk X tg e) (ha : asg tg d ρ = .ok ρ') (r : Rep T H d x)
    (q : ∀ ds vs, RepL T H ds vs → (tgs tg).length = vs.length → ρ' = setAll (tgs tg) ds ρ → Q (setAllS (tgs tg) vs σ) H) : wG X e x σ H Q := by
  cases tg with
  | nm i =>
    cases ha
    exact (TgN.pg h nd).w (q [d] [x] (.cons r .nil) rfl rfl)
  | tup is =>
    match e, h with
    | .Tuple es _ _, h =>
      unfold asg at ha
      split at ha
      · rename_i j d' hj
        cases hj
      · rename_i is' ds hj
        cases hj
        split at ha
        · rename_i hl
          cases ha
          obtain ⟨p1, p2, p3⟩ := TgNs.pgs nd (show TgNs X is es from h)
          obtain ⟨a, xs, rfl, _, hp, z, rr⟩ := r.tuple_inv
          have hl' : is.length = xs.length := by rw [← rr.length]; exact hl.symm
          exact (pg_tup hc p1 p2 p3).w ⟨a, xs, rfl, .of hp, hl'.symm, gNames_ok hl' (q ds xs rr hl' rfl)⟩
        · cases ha
      · cases ha
theorem nx_ok {S α : Type} {m : M S α} {s : S} {a : α × S} (h : nx m s = .ok a) : m s = .ok a := by
  unfold nx at h
  cases q : m s with
  | ok b => rw [q] at h; exact h
  | exc x l => rw [q] at h; cases h
  | bad => rw [q] at h; cases h

section
variable {S : Type} {X : Cx} {k : SK S} {T T' : Addr → Prop} {σ : L2.St} {H H' : Hp} {ρ : Env} {st : S} {L : List Nat}
theorem EnvR.set {i : Nat} {d : PyData} {v : V} (n : EnvR X k T L ρ σ H) (r : Rep T H d v) (hs : ∀ p, k.slot = some p → p.1 ≠ i) : EnvR X k T (i :: L) (ρ.set i (some d)) (σ.set i (some v)) H := by
  refine ⟨fun j hj d' e => ?_, fun p hp => ?_, by simpa using n.len⟩
  · by_cases q : j = i
    · subst q
      have hl : j < ρ.length := by
        have := (List.getElem?_eq_some_iff.mp e).1
        simpa using this
      rw [List.getElem?_set_self hl] at e
      cases e
      exact ⟨v, by rw [List.getElem?_set_self (Nat.lt_of_lt_of_le hl n.len)], r⟩
    · rw [List.getElem?_set_ne (Ne.symm q)] at e
      rcases List.mem_cons.mp hj with z | z
      · exact absurd z q
      · obtain ⟨w, a, b⟩ := n.v j z d' e
        exact ⟨w, by rw [List.getElem?_set_ne (Ne.symm q)]; exact a, b⟩
  · rw [List.getElem?_set_ne (Ne.symm (hs p hp))]
    exact n.ds p hp
theorem EnvR.setAll : ∀ {is : List Nat} {ds : List PyData} {vs : List V} {ρ : Env} {σ : L2.St} {L : List Nat}, (∀ p, k.slot = some p → ∀ i ∈ is, p.1 ≠ i) → EnvR X k T L ρ σ H → RepL T H ds vs → is.length = vs.length → EnvR X k T (is ++ L) (Mir.setAll is ds ρ) (setAllS is vs σ) H
  | [], ds, vs, ρ, σ, L, _, n, r, hl => by
    cases vs with
    | nil => cases ds with
      | nil => exact n
      | cons d ds => exact nomatch r.length
    | cons v vs => exact nomatch hl
  | i :: is, ds, vs, ρ, σ, L, hs, n, r, hl => by
    cases vs with
    | nil => exact nomatch hl
    | cons v vs =>
      cases ds with
      | nil => exact nomatch r.length
      | cons d ds =>
        obtain ⟨x, t, e, h1, h2⟩ := r.cons_inv
        cases e
        have := EnvR.setAll (fun p hp j hj => hs p hp j (List.mem_cons_of_mem _ hj)) (n.set h1 (fun p hp => hs p hp i List.mem_cons_self)) h2 (by simpa using hl)
        exact this.sub fun j hj => by
          simp only [List.cons_append, List.mem_cons, List.mem_append] at hj ⊢
          rcases hj with z | z | z
          · exact .inr (.inl z)
          · exact .inl z
          · exact .inr (.inr z)
theorem EnvR.mv (n : EnvR X k T L ρ σ H) (m : Mv T T' H H') : EnvR X k T' L ρ σ H' := ⟨fun i hi d e => let ⟨v, a, b⟩ := n.v i hi d e; ⟨v, a, Rep.mv m d v b⟩, n.ds, n.len⟩
/-- another context -/
theorem EnvR.cx {X' : Cx} (n : EnvR X k T L ρ σ H) : EnvR X' k T L ρ σ H := ⟨n.v, n.ds, n.len⟩
theorem Ok.cx {X' : Cx} (o : Ok X k T st H) : Ok X' k T st H := ⟨o.dom, o.loc, o.rel⟩
theorem wipeE_get : ∀ {vs : List Nat} {ρ : Env} {i : Nat} {d : PyData}, (wipeE ρ vs)[i]? = some (some d) → ρ[i]? = some (some d) ∧ i ∉ vs
  | [], _, _, _, h => ⟨h, by simp⟩
  | v :: vs, ρ, i, d, h => by
    unfold wipeE at h
    by_cases hi : v = i
    · subst hi
      by_cases hv : v < (wipeE ρ vs).length
      · rw [List.getElem?_set_self hv] at h; cases h
      · rw [List.getElem?_eq_none (by simpa using hv)] at h; cases h
    · rw [List.getElem?_set_ne hi] at h
      obtain ⟨h1, h2⟩ := wipeE_get h
      exact ⟨h1, by simp only [List.mem_cons, not_or]; exact ⟨fun e => hi e.symm, h2⟩⟩
theorem wipeE_len (ρ : Env) : ∀ vs : List Nat, (wipeE ρ vs).length = ρ.length
  | [] => rfl
  | v :: vs => by unfold wipeE; rw [List.length_set, wipeE_len ρ vs]
theorem wipe_keep {σ : L2.St} {i : Nat} : ∀ {vs : List Nat}, i ∉ vs → (wipe σ vs)[i]? = σ[i]?
  | [], _ => rfl
  | v :: vs, h => by
    simp only [List.mem_cons, not_or] at h
    unfold wipe
    rw [List.getElem?_set_ne (Ne.symm h.1)]
    exact wipe_keep h.2
theorem EnvR.wipe {vs : List Nat} (n : EnvR X k T L ρ σ H) (hs : ∀ p, k.slot = some p → p.1 ∉ vs) : EnvR X k T L (wipeE ρ vs) (L2.wipe σ vs) H := by
  refine ⟨fun i hi d e => ?_, fun p hp => ?_, by rw [wipeE_len, wipe_length]; exact n.len⟩
  · obtain ⟨h1, h2⟩ := wipeE_get e
    obtain ⟨v, a, b⟩ := n.v i hi d h1
    exact ⟨v, by rw [wipe_keep h2]; exact a, b⟩
  · rw [wipe_keep (hs p hp)]; exact n.ds p hp
theorem wipe_set {σ : L2.St} {i : Nat} {o : Option V} : ∀ {vs : List Nat}, i ∈ vs → wipe (σ.set i o) vs = wipe σ vs
  | v :: vs, h => by
    unfold wipe
    by_cases hv : i ∈ vs
    · rw [wipe_set hv]
    · have e : v = i := by
        rcases List.mem_cons.mp h with z | z
        · exact z.symm
        · exact absurd z hv
      subst e
      apply List.ext_getElem?
      intro j
      by_cases hj : v = j
      · subst hj
        by_cases hl : v < (wipe σ vs).length
        · rw [List.getElem?_set_self hl, List.getElem?_set_self (by rw [wipe_length] at hl ⊢; simpa using hl)]
        · have e1 : (wipe (σ.set v o) vs).length = (wipe σ vs).length := by rw [wipe_length, wipe_length, List.length_set]
          rw [List.getElem?_eq_none (by rw [List.length_set, e1]; omega), List.getElem?_eq_none (by rw [List.length_set]; omega)]
      · rw [List.getElem?_set_ne hj, List.getElem?_set_ne hj]
        by_cases hjv : j ∈ vs
        · have a1 : ∀ (τ : L2.St) (us : List Nat), j ∈ us → ∀ x, (wipe τ us)[j]? = some (some x) → False := fun τ us hm x e => (wipe_some e).2 hm
          have b1 := a1 (σ.set v o) vs hjv
          have b2 := a1 σ vs hjv
          cases q : (wipe (σ.set v o) vs)[j]? with
          | none =>
            have := List.getElem?_eq_none_iff.mp q
            rw [wipe_length, List.length_set] at this
            rw [List.getElem?_eq_none (by rw [wipe_length]; exact this)]
          | some y =>
            cases y with
            | some y => exact (b1 y q).elim
            | none =>
              have hlt := (List.getElem?_eq_some_iff.mp q).1
              rw [wipe_length, List.length_set] at hlt
              cases q2 : (wipe σ vs)[j]? with
              | none => rw [List.getElem?_eq_none_iff, wipe_length] at q2; omega
              | some y2 => cases y2 with
                | none => rfl
                | some y2 => exact (b2 y2 q2).elim
        · rw [wipe_keep hjv, wipe_keep hjv, List.getElem?_set_ne hj]
theorem wipe_setAll {vs : List Nat} : ∀ {is : List Nat} {ws : List V} {σ : L2.St}, (∀ i ∈ is, i ∈ vs) → wipe (setAllS is ws σ) vs = wipe σ vs
  | [], ws, σ, _ => by cases ws <;> rfl
  | i :: is, [], σ, _ => rfl
  | i :: is, w :: ws, σ, h => by
    show wipe (setAllS is ws (σ.set i (some w))) vs = _
    rw [wipe_setAll fun j hj => h j (List.mem_cons_of_mem _ hj), wipe_set (h i List.mem_cons_self)]
theorem wipe_wipe (σ : L2.St) (vs : List Nat) : wipe (wipe σ vs) vs = wipe σ vs := by
  have key : ∀ us : List Nat, (∀ i ∈ us, i ∈ vs) → wipe (wipe σ us) vs = wipe σ vs := by
    intro us
    induction us with
    | nil => intro _; rfl
    | cons u us ih =>
      intro h
      show wipe ((wipe σ us).set u none) vs = _
      rw [wipe_set (h u List.mem_cons_self), ih fun i hi => h i (List.mem_cons_of_mem _ hi)]
  exact key vs fun _ h => h
end

/-! ### what is walked -/
/-- J yields the items, in every later heap -/
def JW (T : Addr → Prop) (items : List PyData) (J : L2.It) (H1 : Hp) : Prop := ∀ (i : Nat) (H' : Hp) (T' : Addr → Prop), Mv T T' H1 H' → Dom T' H' →
  (i < items.length → J.go i H' ∧ ∀ x H2, J.yld i H' x H2 → (∃ d, items[i]? = some d ∧ Rep T' H2 d x) ∧ Ext NoT H' H2) ∧ (items.length ≤ i → J.stop i H')
def wI (X : Cx) (tg iter : Expr) : TI := fun σ H R => ∀ (pins : List (Addr × Obj)) (s : Shared), Inv X pins σ H s →
  wpAny (model X.prog X.w) X.A (eval iter X.env) (fun v s1 => wpAny (model X.prog X.w) X.A (pyIter v) (PIE X pins σ tg R) X.xe s1) X.xe s
theorem pi_w {X : Cx} {tg iter : Expr} : PI X tg iter (wI X tg iter) := ⟨fun pins s σ H R I h => h pins s I⟩
theorem _root_.L2.PI.w {X : Cx} {tg iter : Expr} {t : TI} {σ : L2.St} {H : Hp} {R : L2.It → Hp → Prop} (h : PI X tg iter t) (q : t σ H R) : wI X tg iter σ H R := fun pins s I => h.run pins s σ H R I q
section
variable {S : Type} {X : Cx} {k : SK S} {T T' : Addr → Prop} {σ : L2.St} {H H' : Hp} {ρ : Env} {st : S} {L : List Nat} {W : WX}
def PostI (X : Cx) (k : SK S) (T : Addr → Prop) (σ : L2.St) (H : Hp) (r : R (List PyData × S)) (Q : L2.It → Hp → Prop) (W : WX) : Prop := match r with
  | .ok (items, st) => ∀ J H', JW T items J H' → items.length ≤ sizeLine → Ext k.loc H H' → k.rel st H' → Q J H'
  | .exc x l => ∀ cls dx H', XcIs X.mg x l cls dx H' → Ext k.loc H H' → W cls dx σ H'
  | .bad => False
def SI (X : Cx) (k : SK S) (tg : Expr) (c : Mir.It S) (e : Expr) : Prop := ∀ (T : Addr → Prop) (ρ : Env) (st : S) (σ : L2.St) (H : Hp) (Q : L2.It → Hp → Prop) (W : WX),
  EnvR X k T (fvI c) ρ σ H → Ok X k T st H → Takes X W → PostI X k T σ H (evIt c ρ st) Q W → wI X tg e σ H Q
theorem JW.list {items : List PyData} {a : Addr} {xs : List V} {K : PySem.W.Frag} (n : ¬ T a) (h : H a = some (.lst xs)) (r : RepL T H items xs) : JW T items (Itl K a) H := fun i H' T' m dm => by
  have h' := m.h a _ n h
  have r' := RepL.mv m _ _ r
  refine ⟨fun hi => ?_, fun hi => ⟨xs, .of h', by rw [← r.length]; exact hi⟩⟩
  obtain ⟨x, e1, e2⟩ := r'.get (List.getElem?_eq_getElem hi)
  refine ⟨⟨xs, x, .of h', e1⟩, fun y H2 hy => ?_⟩
  obtain ⟨rfl, hy⟩ := hy
  have := hy xs (.of h')
  rw [e1] at this; cases this
  exact ⟨⟨_, List.getElem?_eq_getElem hi, e2⟩, .refl⟩
theorem JW.tup {items : List PyData} {a : Addr} {xs : List V} {K : PySem.W.Frag} (n : ¬ T a) (h : H a = some (.tup xs)) (r : RepL T H items xs) : JW T items (Itt K a) H := fun i H' T' m dm => by
  have h' := m.h a _ n h
  have r' := RepL.mv m _ _ r
  refine ⟨fun hi => ?_, fun hi => ⟨xs, .of h', by rw [← r.length]; exact hi⟩⟩
  obtain ⟨x, e1, e2⟩ := r'.get (List.getElem?_eq_getElem hi)
  refine ⟨⟨xs, x, .of h', e1⟩, fun y H2 hy => ?_⟩
  obtain ⟨rfl, hy⟩ := hy
  have := hy xs (.of h')
  rw [e1] at this; cases this
  exact ⟨⟨_, List.getElem?_eq_getElem hi, e2⟩, .refl⟩
theorem JW.range {lo : Int} {n : Nat} : JW T (rangeD lo n) (Itr lo n) H := fun i H' T' m dm => by
  have hl : (rangeD lo n).length = n := by simp [rangeD]
  refine ⟨fun hi => ?_, fun hi => by rw [hl] at hi; exact hi⟩
  rw [hl] at hi
  refine ⟨hi, fun y H2 hy => ?_⟩
  obtain ⟨rfl, rfl⟩ := hy
  exact ⟨⟨.int (lo + i), by simp [rangeD, hi], .mkInt⟩, .refl⟩
theorem JW.sign {z : Str} : JW T (z.cps.toList.map fun c => .str ⟨#[c]⟩) (Its z) H := fun i H' T' m dm => by
  have hl : (z.cps.toList.map fun c => PyData.str ⟨#[c]⟩).length = z.cps.size := by simp
  refine ⟨fun hi => ?_, fun hi => by rw [hl] at hi; exact hi⟩
  rw [hl] at hi
  refine ⟨hi, fun y H2 hy => ?_⟩
  obtain ⟨rfl, c, hc, rfl⟩ := hy
  exact ⟨⟨.str ⟨#[c]⟩, by simp [hc], .mkStr (by show 1 ≤ sizeLine; rw [sizeLine_eq]; omega)⟩, .refl⟩
theorem SqL_inj {K : PySem.W.Frag} {a : Addr} {xs : List V} (h : H a = some (.lst xs)) {ys : List V} : SqL K H a ys → (K.lookup a = none) → ys = xs := by
  intro q hk
  rcases q with (q | ⟨o, q⟩) | ⟨o, its, n, q, _⟩
  · rw [h] at q; cases q; rfl
  · rw [h] at q; cases q
  · rw [hk] at q; cases q
theorem JW.zipL {items ys : List PyData} {a b : Addr} {xs zs : List V} {K : PySem.W.Frag} (n : ¬ T a) (h : H a = some (.lst xs)) (r : RepL T H items xs) (n2 : ¬ T b) (h2 : H b = some (.lst zs)) (r2 : RepL T H ys zs) :
    JW T ((items.zip ys).map fun p => .tuple [p.1, p.2]) (Itz K a b) H := fun i H' T' m dm => by
  have h' := m.h a _ n h
  have r' := RepL.mv m _ _ r
  have h2' := m.h b _ n2 h2
  have r2' := RepL.mv m _ _ r2
  have hl : ((items.zip ys).map fun p => PyData.tuple [p.1, p.2]).length = min items.length ys.length := by simp
  refine ⟨fun hi => ?_, fun hi => ⟨xs, zs, .of h', .of h2', by rw [hl] at hi; rw [← r.length, ← r2.length]; omega⟩⟩
  rw [hl] at hi
  have hi1 : i < items.length := by omega
  have hi2 : i < ys.length := by omega
  obtain ⟨x, e1, e2⟩ := r'.get (List.getElem?_eq_getElem hi1)
  obtain ⟨y, f1, f2⟩ := r2'.get (List.getElem?_eq_getElem hi2)
  refine ⟨⟨xs, zs, x, y, .of h', .of h2', e1, f1⟩, fun v H2 hv => ?_⟩
  obtain ⟨q, x', y', rfl, hq, rfl, hx, hy⟩ := hv
  have ex := hx xs (.of h')
  have ey := hy zs (.of h2')
  rw [e1] at ex; cases ex
  rw [f1] at ey; cases ey
  refine ⟨⟨.tuple [items[i], ys[i]], ?_, ?_⟩, Ext.laid hq⟩
  · rw [List.getElem?_map, List.getElem?_eq_getElem (by simp; omega)]
    simp
  · exact .mkTuple (dm q hq) upd_same (by show 2 ≤ sizeLine; rw [sizeLine_eq]; omega) (.cons (e2.laid hq) (.cons (f2.laid hq) .nil))
theorem JW.zipT {items ys : List PyData} {a b : Addr} {xs zs : List V} {K : PySem.W.Frag} (n : ¬ T a) (h : H a = some (.tup xs)) (r : RepL T H items xs) (n2 : ¬ T b) (h2 : H b = some (.tup zs)) (r2 : RepL T H ys zs) :
    JW T ((items.zip ys).map fun p => .tuple [p.1, p.2]) (RZ.ItzT K a b) H := fun i H' T' m dm => by
  have h' := m.h a _ n h
  have r' := RepL.mv m _ _ r
  have h2' := m.h b _ n2 h2
  have r2' := RepL.mv m _ _ r2
  have hl : ((items.zip ys).map fun p => PyData.tuple [p.1, p.2]).length = min items.length ys.length := by simp
  refine ⟨fun hi => ?_, fun hi => ⟨xs, zs, .of h', .of h2', by rw [hl] at hi; rw [← r.length, ← r2.length]; omega⟩⟩
  rw [hl] at hi
  have hi1 : i < items.length := by omega
  have hi2 : i < ys.length := by omega
  obtain ⟨x, e1, e2⟩ := r'.get (List.getElem?_eq_getElem hi1)
  obtain ⟨y, f1, f2⟩ := r2'.get (List.getElem?_eq_getElem hi2)
  refine ⟨⟨xs, zs, x, y, .of h', .of h2', e1, f1⟩, fun v H2 hv => ?_⟩
  obtain ⟨q, x', y', rfl, hq, rfl, hx, hy⟩ := hv
  have ex := hx xs (.of h')
  have ey := hy zs (.of h2')
  rw [e1] at ex; cases ex
  rw [f1] at ey; cases ey
  refine ⟨⟨.tuple [items[i], ys[i]], ?_, ?_⟩, Ext.laid hq⟩
  · rw [List.getElem?_map, List.getElem?_eq_getElem (by simp; omega)]
    simp
  · exact .mkTuple (dm q hq) upd_same (by show 2 ≤ sizeLine; rw [sizeLine_eq]; omega) (.cons (e2.laid hq) (.cons (f2.laid hq) .nil))
theorem JW.enum {items : List PyData} {a : Addr} {xs : List V} {K : PySem.W.Frag} (n : ¬ T a) (h : H a = some (.lst xs)) (r : RepL T H items xs) : JW T (items.zipIdx.map fun p => .tuple [.int p.2, p.1]) (Ite K a) H := fun i H' T' m dm => by
  have h' := m.h a _ n h
  have r' := RepL.mv m _ _ r
  have hl : (items.zipIdx.map fun p => PyData.tuple [.int p.2, p.1]).length = items.length := by simp
  refine ⟨fun hi => ?_, fun hi => ⟨xs, .of h', by rw [hl] at hi; rw [← r.length]; exact hi⟩⟩
  rw [hl] at hi
  obtain ⟨x, e1, e2⟩ := r'.get (List.getElem?_eq_getElem hi)
  refine ⟨⟨xs, x, .of h', e1⟩, fun v H2 hv => ?_⟩
  obtain ⟨q, x', rfl, hq, rfl, hx⟩ := hv
  have ex := hx xs (.of h')
  rw [e1] at ex; cases ex
  refine ⟨⟨.tuple [.int i, items[i]], ?_, ?_⟩, Ext.laid hq⟩
  · rw [List.getElem?_map, List.getElem?_zipIdx, List.getElem?_eq_getElem hi]
    simp
  · exact .mkTuple (dm q hq) upd_same (by show 2 ≤ sizeLine; rw [sizeLine_eq]; omega) (.cons .mkInt (.cons (e2.laid hq) .nil))

/-- a list or tuple that is there is walked -/
theorem iter_items {pins : List (Addr × Obj)} {s : Shared} {tg : Expr} {R : L2.It → Hp → Prop} {E : Value → Shared → Prop} {d : PyData} {items : List PyData} {x : V} {v : Value} (I : Inv X pins σ H s) (h : itemsR d = .ok items) (r : Rep T H d x) (rx : RelV x v)
    (q : ∀ J, JW T items J H → items.length ≤ sizeLine → R J H) : wpAny (model X.prog X.w) X.A (pyIter v) (PIE X pins σ tg R) E s := by
  obtain ⟨a, xs, rfl, n, c, z, rr⟩ := itemsR_rep h r
  obtain rfl : v = .ref a := rx
  rcases c with ⟨rfl, hp⟩ | ⟨rfl, hp⟩
  · obtain ⟨its, rv, p, hz⟩ := I.list (.of hp)
    refine wpAny_pyIter_list p.isList ?_
    refine ⟨s.heap.objs.size, [s.heap.objs.size], _, _, H, rfl, I.kept (t' := s.toks) fun b o e => Heap.get?_push_of_some _ e, turn_list a _, ⟨_, Heap.get?_push_size _ rfl, rfl, rfl⟩, fun b hb => ?_, q _ (.list n hp rr) (by rw [rr.length]; exact z)⟩
    have e : b = s.heap.objs.size := by simpa using hb
    subst e
    exact I.fpOk (Nat.le_refl _) (I.hok.fresh (Nat.le_refl _))
  · obtain ⟨its, rv, p, hz⟩ := I.tuple (.of hp)
    refine wpAny_pyIter_tuple (show s.heap.IsTuple a its.toArray from p) ?_
    refine ⟨s.heap.objs.size, [s.heap.objs.size], _, _, H, rfl, I.kept (t' := s.toks) fun b o e => Heap.get?_push_of_some _ e, turn_tuple a _, ⟨_, Heap.get?_push_size _ rfl, rfl, rfl⟩, fun b hb => ?_, q _ (.tup n hp rr) (by rw [rr.length]; exact z)⟩
    have e : b = s.heap.objs.size := by simpa using hb
    subst e
    exact I.fpOk (Nat.le_refl _) (I.hok.fresh (Nat.le_refl _))
/-- a part, then a walk -/
theorem SE.thenI {c : E S} {e : Expr} (h : SE X k c e) {g : PyData → M S (List PyData)} {Q : VK} {Q' : L2.It → Hp → Prop} (n : EnvR X k T (fv c) ρ σ H) (o : Ok X k T st H) (t : Takes X W) (p : PostI X k T σ H (bnd (ev c ρ) g st) Q' W)
    (q : ∀ d st' v H', Rep T H' d v → Ext k.loc H H' → Ok X k T st' H' → PostI X k T σ H' (g d st') Q' W → Q v H') : wE X e σ H Q := by
  refine h T ρ st σ H Q W n o t ?_
  unfold bnd R.bind at p
  unfold PostE
  cases hr : ev c ρ st with
  | ok a =>
    obtain ⟨d, st'⟩ := a
    rw [hr] at p
    refine fun v H' r e k' => q d st' v H' r e (o.next e k') ?_
    have p : PostI X k T σ H (g d st') Q' W := p
    unfold PostI at p ⊢
    cases hg : g d st' with
    | ok a => rw [hg] at p; exact fun J H2 j z e2 => p J H2 j z (e.trans e2)
    | exc x l => rw [hg] at p; exact fun cls dx H2 hx e2 => p cls dx H2 hx (e.trans e2)
    | bad => rw [hg] at p; exact p
  | exc x l => rw [hr] at p; exact p
  | bad => rw [hr] at p; exact p
theorem PostI.there {r : R (List PyData)} {Q : L2.It → Hp → Prop} (p : PostI X k T σ H (lft r st) Q W) (nx : ∀ n l, r ≠ .exc n l) : ∃ d, r = .ok d ∧ ∀ J H', JW T d J H' → d.length ≤ sizeLine → Ext k.loc H H' → k.rel st H' → Q J H' := by
  cases r with
  | ok d => exact ⟨d, rfl, p⟩
  | exc x l => exact (nx _ _ rfl).elim
  | bad => exact p.elim
theorem si_of {a : E S} {ea tg : Expr} (ha : SE X k a ea) : SI X k tg (.of a) ea := fun T ρ st σ H Q W n o t p pins s I => by
  simp only [evIt] at p
  refine thn ((ha.thenI (Q := fun v H1 => ∃ d items, itemsR d = .ok items ∧ Rep T H1 d v ∧ ∀ J, JW T items J H1 → items.length ≤ sizeLine → Q J H1) n o t p fun d st1 v H1 r1 e1 o1 p1 => ?_) pins s I) fun v s1 ⟨x, H1, I1, r1, q⟩ => ?_
  · obtain ⟨items, hi, q⟩ := p1.there fun n l => itemsR_nx
    exact ⟨d, items, hi, r1, fun J j z => q J H1 j z .refl o1.rel⟩
  · obtain ⟨d, items, hi, rep, q⟩ := q
    exact iter_items I1 hi rep r1 q
theorem si_sign {a : E S} {ea tg : Expr} (ha : SE X k a ea) : SI X k tg (.sign a) ea := fun T ρ st σ H Q W n o t p => by
  simp only [evIt] at p
  refine (pi_str pe_w).w ?_
  refine ha.thenI n o t p fun d st1 v H1 r1 e1 o1 p1 => ?_
  obtain ⟨items, hi, q⟩ := p1.there fun n l h => by unfold signD at h; split at h <;> cases h
  unfold signD at hi
  split at hi
  · rename_i z
    cases hi
    obtain ⟨e, hz⟩ := r1.str_inv
    exact ⟨z, e, q _ H1 .sign (by simpa [Str.length] using hz) .refl o1.rel⟩
  · cases hi
theorem si_range1 {a : E S} {ea tg : Expr} {pn pos : Pos} (hg : Gl X "range") (hm : X.mg "range" = none) (ha : SE X k a ea) (hk : okE ea = true) : SI X k tg (.range1 a) (.Call (.Name "range" pn) [ea] [] pos) := fun T ρ st σ H Q W n o t p => by
  simp only [evIt] at p
  refine (pi_range1 hg hm (pa_cons pe_w pa_nil (star_cons hk _ _)) (star_cons hk _ _)).w ?_
  refine ha.thenI n o t p fun d st1 v H1 r1 e1 o1 p1 => ?_
  have hs : sizeLine = 16777216 := sizeLine_eq
  obtain ⟨items, hi, q⟩ := p1.there fun n l h => int_then h fun i h => by split at h <;> cases h
  obtain ⟨j, hj, hi⟩ := bind_ok hi
  split at hi
  · rename_i hb
    cases hi
    rw [intR_ok hj] at r1
    refine ⟨j, by rw [r1.int_inv], hb.2, by omega, q _ H1 .range ?_ .refl o1.rel⟩
    simp [rangeD]; omega
  · cases hi
theorem si_range2 {a b : E S} {ea eb tg : Expr} {pn pos : Pos} (hg : Gl X "range") (hm : X.mg "range" = none) (ha : SE X k a ea) (hb : SE X k b eb) (hk : okE ea = true) (hk2 : okE eb = true) : SI X k tg (.range2 a b) (.Call (.Name "range" pn) [ea, eb] [] pos) := fun T ρ st σ H Q W n o t p => by
  simp only [evIt] at p
  refine (pi_range2 hg hm (pa_cons pe_w (pa_cons pe_w pa_nil (star_cons hk2 _ _)) (star_cons hk _ _)) (by rw [star_cons hk, star_cons hk2]; rfl) (star_cons hk2 _ _)).w ?_
  refine ha.thenI n.left o t p fun d st1 v H1 r1 e1 o1 p1 => ?_
  refine hb.thenI (n.right.next (o.extT e1)) o1 t p1 fun d2 st2 v2 H2 r2 e2 o2 p2 => ?_
  obtain ⟨items, hi, q⟩ := p2.there fun n l h => int_then h fun i h => int_then h fun j h => by split at h <;> cases h
  obtain ⟨i, hi', hi⟩ := bind_ok hi
  obtain ⟨j, hj', hi⟩ := bind_ok hi
  split at hi
  · rename_i hc
    cases hi
    rw [intR_ok hi'] at r1
    rw [intR_ok hj'] at r2
    refine ⟨i, j, by rw [r1.int_inv, r2.int_inv], ⟨hc.1, hc.2.1, hc.2.2.1, hc.2.2.2.1⟩, q _ H2 .range ?_ .refl o2.rel⟩
    have := hc.2.2.2.2
    simp [rangeD]; omega
  · cases hi

theorem JW.range3 {lo c : Int} {n : Nat} : JW T ((List.range n).map fun (k : Nat) => PyData.int (lo + (k : Int) * c)) (Itc lo c n) H := fun i H' T' m dm => by
  have hl : ((List.range n).map fun (k : Nat) => PyData.int (lo + (k : Int) * c)).length = n := by simp
  refine ⟨fun hi => ?_, fun hi => by rw [hl] at hi; exact hi⟩
  rw [hl] at hi
  refine ⟨hi, fun y H2 hy => ?_⟩
  obtain ⟨rfl, rfl⟩ := hy
  exact ⟨⟨.int (lo + (i : Int) * c), by simp [hi], .mkInt⟩, .refl⟩
theorem si_range3 {a b c : E S} {ea eb ec tg : Expr} {pn pos : Pos} (hg : Gl X "range") (hm : X.mg "range" = none) (ha : SE X k a ea) (hb : SE X k b eb) (hc : SE X k c ec) (hk : okE ea = true) (hk2 : okE eb = true) (hk3 : okE ec = true) : SI X k tg (.range3 a b c) (.Call (.Name "range" pn) [ea, eb, ec] [] pos) := fun T ρ st σ H Q W n o t p => by
  simp only [evIt] at p
  refine (pi_range3 hg hm (pa_cons pe_w (pa_cons pe_w (pa_cons pe_w pa_nil (star_cons hk3 _ _)) (star_cons hk2 _ _)) (star_cons hk _ _)) (star_cons hk _ _) (back_ok _ _ (by simp [hk2, hk3]))).w ?_
  refine ha.thenI n.left o t p fun d st1 v H1 r1 e1 o1 p1 => ?_
  refine hb.thenI (n.right.left.next (o.extT e1)) o1 t p1 fun d2 st2 v2 H2 r2 e2 o2 p2 => ?_
  refine hc.thenI (n.right.right.next ((o.extT e1).trans (o1.extT e2))) o2 t p2 fun d3 st3 v3 H3 r3 e3 o3 p3 => ?_
  obtain ⟨items, hi, q⟩ := p3.there fun n l h => int_then h fun i h => int_then h fun j h => int_then h fun k h => by unfold range3D at h; split at h <;> cases h
  obtain ⟨i, hi', hi⟩ := bind_ok hi
  obtain ⟨j, hj', hi⟩ := bind_ok hi
  obtain ⟨k, hk', hi⟩ := bind_ok hi
  unfold range3D at hi
  split at hi
  · rename_i hc
    cases hi
    rw [intR_ok hi'] at r1
    rw [intR_ok hj'] at r2
    rw [intR_ok hk'] at r3
    refine ⟨i, j, k, (Builtin.Range.rangeSize i j k).toNat, by rw [r1.int_inv, r2.int_inv, r3.int_inv], ⟨hc.1, hc.2.1, hc.2.2.1, (Int.toNat_of_nonneg hc.2.2.2.1).symm⟩, q _ H3 .range3 ?_ .refl o3.rel⟩
    have := hc.2.2.2.2
    simp; omega
  · cases hi
theorem JW.revL {items : List PyData} {a : Addr} {xs : List V} {K : PySem.W.Frag} (n : ¬ T a) (h : H a = some (.lst xs)) (r : RepL T H items xs) : JW T items.reverse (Itv K a xs.length) H := fun i H' T' m dm => by
  have h' := m.h a _ n h
  have r' := RepL.reverse (RepL.mv m _ _ r)
  have hl := r.length
  refine ⟨fun hi => ?_, fun hi => ?_⟩
  · rw [List.length_reverse] at hi
    obtain ⟨x, e1, e2⟩ := r'.get (List.getElem?_eq_getElem (by rw [List.length_reverse]; exact hi))
    have e3 : xs[xs.length - 1 - i]? = some x := by rw [← List.getElem?_reverse (by omega)]; exact e1
    refine ⟨⟨by omega, xs, x, .of h', e3⟩, fun y H2 hy => ?_⟩
    obtain ⟨rfl, hy⟩ := hy
    have := hy xs (.of h')
    rw [e3] at this; cases this
    exact ⟨⟨_, List.getElem?_eq_getElem (by rw [List.length_reverse]; exact hi), e2⟩, .refl⟩
  · rw [List.length_reverse] at hi
    show xs.length ≤ i
    omega
theorem JW.revT {items : List PyData} {a : Addr} {xs : List V} {K : PySem.W.Frag} (n : ¬ T a) (h : H a = some (.tup xs)) (r : RepL T H items xs) : JW T items.reverse (RT.ItvT K a xs.length) H := fun i H' T' m dm => by
  have h' := m.h a _ n h
  have r' := RepL.reverse (RepL.mv m _ _ r)
  have hl := r.length
  refine ⟨fun hi => ?_, fun hi => ?_⟩
  · rw [List.length_reverse] at hi
    obtain ⟨x, e1, e2⟩ := r'.get (List.getElem?_eq_getElem (by rw [List.length_reverse]; exact hi))
    have e3 : xs[xs.length - 1 - i]? = some x := by rw [← List.getElem?_reverse (by omega)]; exact e1
    refine ⟨⟨by omega, xs, x, .of h', e3⟩, fun y H2 hy => ?_⟩
    obtain ⟨rfl, hy⟩ := hy
    have := hy xs (.of h')
    rw [e3] at this; cases this
    exact ⟨⟨_, List.getElem?_eq_getElem (by rw [List.length_reverse]; exact hi), e2⟩, .refl⟩
  · rw [List.length_reverse] at hi
    show xs.length ≤ i
    omega
theorem si_rev {a : E S} {ea tg : Expr} {pn pos : Pos} (hg : Gl X "reversed") (hm : X.mg "reversed" = none) (ha : SE X k a ea) (hk : okE ea = true) : SI X k tg (.rev a) (.Call (.Name "reversed" pn) [ea] [] pos) := fun T ρ st σ H Q W n o t p => by
  simp only [evIt] at p
  refine (RT.pi_revA hg hm pe_w (star_cons hk _ _)).w ?_
  refine ha.thenI n o t p fun d st1 v H1 r1 e1 o1 p1 => ?_
  obtain ⟨items, hi, q⟩ := p1.there fun n l h => by
    cases d <;> cases h
  cases d with
  | list ds =>
    cases hi
    obtain ⟨a, xs, rfl, n1, h1, z1, q1⟩ := r1.list_inv
    refine ⟨a, xs, rfl, .inl ⟨.of h1, q _ H1 (.revL n1 h1 q1) ?_ .refl o1.rel⟩⟩
    have := q1.length
    simp; omega
  | tuple ds =>
    cases hi
    obtain ⟨a, xs, rfl, n1, h1, z1, q1⟩ := r1.tuple_inv
    refine ⟨a, xs, rfl, .inr ⟨.of h1, q _ H1 (.revT n1 h1 q1) ?_ .refl o1.rel⟩⟩
    have := q1.length
    simp; omega
  | _ => cases hi
theorem si_zip {a b : E S} {ea eb : Expr} {elts : List Expr} {kk : Nat} {tp pn pos : Pos} (hg : Gl X "zip") (hm : X.mg "zip" = none) (ha : SE X k a ea) (hb : SE X k b eb) (hk : okE ea = true) (hk2 : okE eb = true) : SI X k (.Tuple elts kk tp) (.zip a b) (.Call (.Name "zip" pn) [ea, eb] [] pos) := fun T ρ st σ H Q W n o t p => by
  simp only [evIt] at p
  refine (RZ.pi_zipA hg hm (pa_cons pe_w (pa_cons pe_w pa_nil (star_cons hk2 _ _)) (star_cons hk _ _)) (star_cons hk _ _) (back_ok _ _ (by simp [hk2]))).w ?_
  refine ha.thenI n.left o t p fun d st1 v H1 r1 e1 o1 p1 => ?_
  refine hb.thenI (n.right.next (o.extT e1)) o1 t p1 fun d2 st2 v2 H2 r2 e2 o2 p2 => ?_
  obtain ⟨items, hi, q⟩ := p2.there fun n l h => by unfold zipD at h; split at h <;> cases h
  have r1 := r1.ext (o1.extT e2)
  unfold zipD at hi
  split at hi
  · cases hi
    obtain ⟨a, xs, rfl, n1, h1, z1, q1⟩ := r1.list_inv
    obtain ⟨b, ys, rfl, n2, h2, z2, q2⟩ := r2.list_inv
    refine ⟨a, b, xs, ys, rfl, .inl ⟨.of h1, .of h2, q _ H2 (.zipL n1 h1 q1 n2 h2 q2) ?_ .refl o2.rel⟩⟩
    have := q1.length
    simp; omega
  · cases hi
    obtain ⟨a, xs, rfl, n1, h1, z1, q1⟩ := r1.tuple_inv
    obtain ⟨b, ys, rfl, n2, h2, z2, q2⟩ := r2.tuple_inv
    refine ⟨a, b, xs, ys, rfl, .inr ⟨.of h1, .of h2, q _ H2 (.zipT n1 h1 q1 n2 h2 q2) ?_ .refl o2.rel⟩⟩
    have := q1.length
    simp; omega
  · cases hi
theorem si_enum {a : E S} {ea : Expr} {elts : List Expr} {kk : Nat} {tp pn pos : Pos} (hg : Gl X "enumerate") (hm : X.mg "enumerate" = none) (ha : SE X k a ea) (hk : okE ea = true) : SI X k (.Tuple elts kk tp) (.enum a) (.Call (.Name "enumerate" pn) [ea] [] pos) := fun T ρ st σ H Q W n o t p => by
  simp only [evIt] at p
  refine (pi_enum hg hm (pa_cons pe_w pa_nil (star_cons hk _ _)) (star_cons hk _ _)).w ?_
  refine ha.thenI n o t p fun d st1 v H1 r1 e1 o1 p1 => ?_
  obtain ⟨items, hi, q⟩ := p1.there fun n l h => by unfold enumD at h; split at h <;> cases h
  unfold enumD at hi
  split at hi
  · cases hi
    obtain ⟨a, xs, rfl, n1, h1, z1, q1⟩ := r1.list_inv
    refine ⟨a, xs, rfl, .of h1, q _ H1 (.enum n1 h1 q1) ?_ .refl o1.rel⟩
    have := q1.length
    simp; omega
  · cases hi

/-! ### list comprehensions -/
theorem nx_nx {α : Type} {m : M S α} {s : S} {n : Str} {l : List PyData} (h : nx m s = .exc n l) : False := by
  unfold nx at h
  cases q : m s with
  | ok b => rw [q] at h; cases h
  | exc x l => rw [q] at h; cases h
  | bad => rw [q] at h; cases h
theorem lcGo_nx {f : PyData → M S (Option PyData)} (hf : ∀ x s n l, f x s ≠ .exc n l) : ∀ {xs : List PyData} {s : S} {n : Str} {l : List PyData}, lcGo f xs s ≠ .exc n l
  | [], s, n, l, h => nomatch h
  | x :: xs, s, n, l, h => by
    simp only [lcGo] at h
    unfold bnd at h
    rcases bind_nx h with ⟨⟨o, s1⟩, h1, h2⟩ | h
    · rcases bind_nx h2 with ⟨⟨r, s2⟩, h3, h4⟩ | h2
      · cases h4
      · exact lcGo_nx hf h2
    · exact hf _ _ _ _ h
theorem lcGo_cons {f : PyData → M S (Option PyData)} {x : PyData} {xs ys : List PyData} {s s' : S} (h : lcGo f (x :: xs) s = .ok (ys, s')) : ∃ o s1 r, f x s = .ok (o, s1) ∧ lcGo f xs s1 = .ok (r, s') ∧ ys = (match o with | some y => y :: r | none => r) := by
  simp only [lcGo] at h
  unfold bnd at h
  obtain ⟨⟨o, s1⟩, h1, h2⟩ := bind_ok h
  obtain ⟨⟨r, s2⟩, h3, h4⟩ := bind_ok h2
  cases h4
  exact ⟨o, s1, r, h1, h3, rfl⟩
/-- the block's context, whatever it is -/
def BlkE (X : Cx) (scope : Scope) (P : Cx → Prop) : Prop := ∀ (s : Shared) (H : Hp) (C : Addr) (cl : List (Str × Addr)) (fp : List Addr), P (X.blk s H scope (compEnvC scope cl C X.env) fp)
/-- the parts, whatever the block -/
def lcG (X : Cx) (scope : Scope) (etg : Expr) : TG := fun v σ H Q => BlkE X scope fun X' => wG X' etg v σ H Q
def lcT (X : Cx) (scope : Scope) (ifs : List Expr) : TT := fun σ H Q => BlkE X scope fun X' => ∃ u : TT, PTs X' ifs u ∧ u σ H Q
def lcE (X : Cx) (scope : Scope) (eelt : Expr) : TE := fun σ H Q => BlkE X scope fun X' => wE X' eelt σ H Q
theorem lcG_ok {etg : Expr} {scope : Scope} : BlkE X scope fun X' => PG X' etg (lcG X scope etg) := fun s H C cl fp => ⟨fun pins s' σ H' v u Q I r h => h s H C cl fp pins s' u I r⟩
theorem lcT_ok {ifs : List Expr} {scope : Scope} : BlkE X scope fun X' => PTs X' ifs (lcT X scope ifs) := fun s H C cl fp => ⟨fun pins s' σ H' Q I h => by
    obtain ⟨u, hu, q⟩ := h s H C cl fp
    exact hu.run pins s' σ H' Q I q⟩
theorem lcE_ok {eelt : Expr} {scope : Scope} : BlkE X scope fun X' => PE X' eelt (lcE X scope eelt) := fun s H C cl fp => ⟨fun pins s' σ H' Q I h => h s H C cl fp pins s' I⟩
theorem lc_read {elt c : E S} {tgt : Tg} {it : Mir.It S} {own : List (Str × Nat)} {eelt etg eiter : Expr} {ifs : List Expr} {scope : Scope} (nd : X.N.Nodup) (hc : X.calm = true) (hi : SI X k etg it eiter) (ok : BlkOk X.N X.env.scope scope own) (hf : okE eiter = true)
    (hown : ∀ i ∈ tgs tgt, i ∈ own.map (·.2)) (hds : ∀ p, k.slot = some p → p.1 ∉ own.map (·.2))
    (ht : BlkE X scope fun X' => TgOk X' tgt etg) (hcc : BlkE X scope fun X' => (ifs = [] ∧ c = .bl true) ∨ ∃ e, ifs = [e] ∧ ST X' k c e) (he : BlkE X scope fun X' => SE X' k elt eelt)
    {T : Addr → Prop} {ρ : Env} {st : S} {σ : L2.St} {H : Hp} {Q : VK} {W : WX} (n : EnvR X k T (fv (.lc elt tgt it c own : E S)) ρ σ H) (o : Ok X k T st H) (t : Takes X W) (p : PostF X k T σ H (ev (.lc elt tgt it c own) ρ st) Q W) :
    tLc (wI X etg eiter) (lcG X scope etg) (lcT X scope ifs) (lcE X scope eelt) (own.map (·.2)) σ H Q := by
  have n1 : EnvR X k T (fvI it) ρ σ H := n.sub fun i h => by simp only [fv, List.mem_append]; exact .inl h
  have n2 : EnvR X k T (fv elt ++ fv c) ρ σ H := n.sub fun i h => by simp only [fv, List.mem_append] at h ⊢; exact .inr h
  generalize hff : (fun x => nx (bnd (lft (asg tgt x (wipeE ρ (own.map (·.2))))) fun ρ' => bnd (ev c ρ') fun t => if truthy t = true then bnd (ev elt ρ') fun y => ret (some y) else ret none)) = f at *
  have p : PostF X k T σ H (bnd (evIt it ρ) (fun xs => bnd (lcGo f xs) fun ys => ret (.list ys)) st) Q W := by
    rw [← hff]; exact p
  refine hi T ρ st σ H _ W n1 o t ?_
  unfold bnd at p
  unfold PostI
  cases hr : evIt it ρ st with
  | exc x l => rw [hr] at p; exact p
  | bad => rw [hr] at p; exact p
  | ok a =>
    obtain ⟨items, st1⟩ := a
    rw [hr] at p
    refine fun J H1 jw hlen e1 rel1 D hD => ?_
    have p : PostF X k T σ H ((lcGo f items st1).bind fun q => R.ok (PyData.list q.1, q.2)) Q W := p
    have hfnx : ∀ x s n l, f x s ≠ .exc n l := fun x s n l h => by rw [← hff] at h; exact nx_nx h
    cases hg : lcGo f items st1 with
    | exc x l => exact (lcGo_nx hfnx hg).elim
    | bad => rw [hg] at p; exact p.elim
    | ok b =>
      obtain ⟨ys, stf⟩ := b
      rw [hg] at p
      have o1 : Ok X k T st1 H1 := o.next e1 rel1
      have hTD : ¬ T D := o1.none hD
      -- the new list is not to be met
      let T' : Addr → Prop := fun a => T a ∨ a = D
      have mv : ∀ H', (∀ a u, ¬ k.loc a → a ≠ D → H1 a = some u → H' a = some u) → Mv T T' H1 H' := fun H' kp =>
        ⟨fun a u nt ha z => z.elim nt fun z => (by subst z; rw [hD] at ha; cases ha), fun a u nt ha => kp a u (fun z => nt (o.loc a z)) (fun z => by subst z; rw [hD] at ha; cases ha) ha⟩
      refine ⟨fun i m H' => m = items.length - i ∧ i ≤ items.length ∧ ∃ sti acc ds rest, H' D = some (.lst acc) ∧ RepL T' H' ds acc ∧ ds.length ≤ i ∧ (∀ a u, ¬ k.loc a → a ≠ D → H1 a = some u → H' a = some u) ∧ k.rel sti H' ∧ lcGo f (items.drop i) sti = .ok (rest, stf) ∧ ds ++ rest = ys,
        ⟨items.length, rfl, Nat.zero_le _, st1, [], [], ys, upd_same, .nil, Nat.le_refl _, fun a u _ hn ha => by rw [upd_ne hn]; exact ha, ?_, by simpa using hg, rfl⟩, ?_⟩
      · exact o1.relNo (Ext.laid hD)
      rintro i m H' ⟨rfl, hile, sti, acc, ds, rest, hDl, hds', hdl, kp, reli, hgo, hys⟩
      have m' := mv H' kp
      have oT : Ok X k T' sti H' := by
        refine ⟨fun a h => ?_, fun a h => .inl (o.loc a h), reli⟩
        by_cases ha : a = D
        · subst ha; exact ⟨_, hDl, trivial⟩
        · by_cases hl : k.loc a
          · obtain ⟨xs, q⟩ := k.there _ _ a reli hl
            exact ⟨_, q, trivial⟩
          · rcases h with h | h
            · obtain ⟨u, hu, mu⟩ := o1.dom a h
              exact ⟨u, kp a u hl ha hu, mu⟩
            · exact absurd h ha
      obtain ⟨jgo, jst⟩ := jw i H' T' m' oT.dom'
      by_cases hlt : i < items.length
      · obtain ⟨jgo, jy⟩ := jgo hlt
        refine .inr ⟨jgo, fun H'' => i + 1 ≤ items.length ∧ ∃ sti acc ds rest, H'' D = some (.lst acc) ∧ RepL T' H'' ds acc ∧ ds.length ≤ i + 1 ∧ (∀ a u, ¬ k.loc a → a ≠ D → H1 a = some u → H'' a = some u) ∧ k.rel sti H'' ∧ lcGo f (items.drop (i + 1)) sti = .ok (rest, stf) ∧ ds ++ rest = ys,
          fun H'' h => ⟨items.length - (i + 1), by omega, rfl, h⟩, fun x H2 hy => ?_⟩
        obtain ⟨⟨d, hd, rd⟩, e2⟩ := jy x H2 hy
        have hdrop : items.drop i = d :: items.drop (i + 1) := by
          rw [List.drop_eq_getElem_cons hlt]
          rw [List.getElem?_eq_getElem hlt] at hd
          cases hd; rfl
        rw [hdrop] at hgo
        obtain ⟨oy, st2, rest2, hfx, hgo2, hrest⟩ := lcGo_cons hgo
        rw [← hff] at hfx
        have hfx := nx_ok hfx
        unfold bnd at hfx
        obtain ⟨⟨ρ', s3⟩, ha1, hfx⟩ := bind_ok hfx
        unfold lft at ha1
        obtain ⟨ρ'', ha2, ha3⟩ := bind_ok ha1
        cases ha3
        have hD2 : H2 D = some (.lst acc) := e2 _ _ id hDl
        have e2k : Ext k.loc H' H2 := .of_no e2
        have o2 : Ok X k T' sti H2 := oT.next e2k (oT.relNo e2)
        have kp2 : ∀ a u, ¬ k.loc a → a ≠ D → H1 a = some u → H2 a = some u := fun a u h1 h2 h3 => e2 _ _ id (kp a u h1 h2 h3)
        have n3 : EnvR X k T' (fv elt ++ fv c) (wipeE ρ (own.map (·.2))) (wipe σ (own.map (·.2))) H2 := ((n2.next (o.extT e1)).mv (mv H2 kp2)).wipe hds
        intro s H C cl fp
        refine sg (T := T') nd hc (ht s H C cl fp) ha2 rd fun es vs rv hl hρ => ?_
        refine ⟨by rw [wipe_setAll hown, wipe_wipe], ?_⟩
        have n4 : EnvR X k T' (fv elt ++ fv c) ρ' (setAllS (tgs tgt) vs (wipe σ (own.map (·.2)))) H2 := by
          rw [hρ]
          exact (EnvR.setAll (fun p hp j hj z => hds p hp (by rw [z]; exact hown j hj)) n3 rv hl).sub fun i hi => List.mem_append_right _ hi
        obtain ⟨⟨tv, st3⟩, hc1, hfx⟩ := bind_ok hfx
        have hfx : (if truthy tv = true then (bnd (ev elt ρ') fun y => ret (some y)) else ret none) st3 = R.ok (oy, st2) := hfx
        -- the test
        intro s' H0' C' cl' fp'
        have fin : ∀ H3, Ext k.loc H2 H3 → k.rel st3 H3 → (if truthy tv = true then lcE X scope eelt (setAllS (tgs tgt) vs (wipe σ (own.map (·.2)))) H3 fun y H4 => ∃ acc, H4 D = some (.lst acc) ∧ acc.length < sizeLine ∧ (i + 1 ≤ items.length ∧ ∃ sti acc2 ds rest, (upd H4 D (.lst (acc ++ [y]))) D = some (.lst acc2) ∧ RepL T' (upd H4 D (.lst (acc ++ [y]))) ds acc2 ∧ ds.length ≤ i + 1 ∧ (∀ a u, ¬ k.loc a → a ≠ D → H1 a = some u → (upd H4 D (.lst (acc ++ [y]))) a = some u) ∧ k.rel sti (upd H4 D (.lst (acc ++ [y]))) ∧ lcGo f (items.drop (i + 1)) sti = .ok (rest, stf) ∧ ds ++ rest = ys)
            else (i + 1 ≤ items.length ∧ ∃ sti acc ds rest, H3 D = some (.lst acc) ∧ RepL T' H3 ds acc ∧ ds.length ≤ i + 1 ∧ (∀ a u, ¬ k.loc a → a ≠ D → H1 a = some u → H3 a = some u) ∧ k.rel sti H3 ∧ lcGo f (items.drop (i + 1)) sti = .ok (rest, stf) ∧ ds ++ rest = ys)) := fun H3 e3 rel3 => by
          have hkD : ¬ k.loc D := fun z => hTD (o.loc D z)
          have hD3 : H3 D = some (.lst acc) := e3 _ _ hkD hD2
          have kp3 : ∀ a u, ¬ k.loc a → a ≠ D → H1 a = some u → H3 a = some u := fun a u h1 h2 h3 => e3 _ _ h1 (kp2 a u h1 h2 h3)
          have rds : RepL T' H3 ds acc := (hds'.ext (.of_no e2)).ext (o2.extT e3)
          by_cases htv : truthy tv = true
          · rw [if_pos htv] at hfx ⊢
            intro s H C cl fp
            have o3 : Ok X k T' st3 H3 := o2.next e3 rel3
            unfold bnd at hfx
            obtain ⟨⟨yd, st4⟩, hy1, hy2⟩ := bind_ok hfx
            cases hy2
            refine he s H C cl fp T' ρ' st3 _ H3 _ (fun _ _ _ _ => False) ((n4.left.next (o2.extT e3)).cx) o3.cx takes0 ?_
            unfold PostE
            rw [hy1]
            refine fun v H4 rv4 e4 rel4 => ⟨acc, e4 _ _ hkD hD3, ?_, hlt, st4, acc ++ [v], ds ++ [yd], rest2, upd_same, ?_, by simp; omega, fun a u h1 h2 h3 => ?_, ?_, hgo2, ?_⟩
            · have := hds'.length
              omega
            · have hTD' : T' D := .inr rfl
              exact ((rds.ext (o3.extT e4)).append (.cons rv4 .nil)).ext (Ext.wr hTD')
            · rw [upd_ne h2]; exact e4 _ _ h1 (kp3 a u h1 h2 h3)
            · exact k.keep _ _ _ rel4 fun a ha => upd_ne fun z => hkD (by rw [← z]; exact ha)
            · rw [List.append_assoc, ← hys, hrest]; rfl
          · rw [if_neg htv] at hfx ⊢
            cases hfx
            exact ⟨hlt, _, acc, ds, rest2, hD3, rds, by omega, kp3, rel3, hgo2, by rw [← hys, hrest]⟩
        rcases hcc s' H0' C' cl' fp' with ⟨rfl, rfl⟩ | ⟨ec, rfl, hst⟩
        · refine ⟨tYes, pts_nil, ?_⟩
          cases hc1
          exact fin H2 .refl o2.rel
        · refine ⟨wT _ ec, pts_one pt_w, ?_⟩
          refine hst T' ρ' sti _ H2 _ (fun _ _ _ _ => False) n4.right.cx o2.cx takes0 ?_
          unfold PostT
          rw [hc1]
          intro H3 e3 rel3
          have := fin H3 e3 rel3
          cases htv : truthy tv <;> simp only [htv] at this ⊢ <;> exact this
      · have hi' : i = items.length := by omega
        subst hi'
        refine .inl ⟨jst (Nat.le_refl _), ?_⟩
        rw [List.drop_length] at hgo
        cases hgo
        rw [List.append_nil] at hys
        subst hys
        have hD0 : H D = none := by
          cases q : H D with
          | none => rfl
          | some u =>
            have := e1 D u (fun z => hTD (o.loc D z)) q
            rw [hD] at this; cases this
        refine p D _ hD0 hTD ⟨_, hDl, by rw [← hds'.length]; omega, hds'⟩ (fun a u h1 h2 => ?_) reli
        have hne : a ≠ D := fun z => by
          have := e1 a u h1 h2
          rw [z, hD] at this; cases this
        exact kp a u h1 hne (e1 a u h1 h2)
theorem se_lc {elt c : E S} {tgt : Tg} {it : Mir.It S} {own : List (Str × Nat)} {eelt etg eiter : Expr} {ifs : List Expr} {scope : Scope} (nd : X.N.Nodup) (hc : X.calm = true) (hi : SI X k etg it eiter) (ok : BlkOk X.N X.env.scope scope own) (hf : okE eiter = true)
    (hown : ∀ i ∈ tgs tgt, i ∈ own.map (·.2)) (hds : ∀ p, k.slot = some p → p.1 ∉ own.map (·.2))
    (ht : BlkE X scope fun X' => TgOk X' tgt etg) (hcc : BlkE X scope fun X' => (ifs = [] ∧ c = .bl true) ∨ ∃ e, ifs = [e] ∧ ST X' k c e) (he : BlkE X scope fun X' => SE X' k elt eelt) :
    SE X k (.lc elt tgt it c own) (.ListComp eelt [⟨etg, eiter, ifs, 0⟩] scope pos) := fun T ρ st σ H Q W n o t p =>
  (pe_lc (g := lcG X scope etg) (tt := lcT X scope ifs) (te := lcE X scope eelt) hc nd pi_w ok lcG_ok lcT_ok lcE_ok (fold_ok hf _)).w (lc_read nd hc hi ok hf hown hds ht hcc he n o t p.f)
end
end Mir

set_option Elab.async false
set_option linter.all false
set_option maxRecDepth 100000
set_option maxHeartbeats 4000000
/-! Mir, part H: is this expression of the text that one of the language? By looking. -/
namespace Mir
open PySem PySem.Spec PyProof.Rows L2

def visB (sc : Scope) (x : Str) : Bool := match sc.names.lookup x with
  | some .local => true | some .cell => true | some .free => true | _ => false
def locB (sc : Scope) (x : Str) : Bool := match sc.names.lookup x with
  | some .local => true | some .cell => true | _ => false
def plainName (x : Str) : Bool := !(x == ("__debug__" : Str)) && !(x == ("__classdict__" : Str))
def glB (sc : Scope) (x : Str) : Bool := decide (sc.names.lookup x = some .globalImplicit) && !(x == ("__debug__" : Str))
def bltNames : List String := ["len", "tuple", "list", "sorted", "all", "any", "int", "sum", "min", "max", "abs", "str", "isinstance", "bool", "dict", "range", "zip", "enumerate", "reversed", "set", "repr", "divmod"]
/-- stored names, by the scope at hand -/
def tgN (N : List Str) (sc : Scope) (i : Nat) : Expr → Bool
  | .Name x _ => decide (N[i]? = some x) && locB sc x
  | _ => false
def tgNs (N : List Str) (sc : Scope) : List Nat → List Expr → Bool
  | [], [] => true
  | i :: is, e :: es => tgN N sc i e && tgNs N sc is es
  | _, _ => false
def tgB (N : List Str) (sc : Scope) : Tg → Expr → Bool
  | .nm i, e => tgN N sc i e
  | .tup is, .Tuple es _ _ => tgNs N sc is es
  | _, _ => false
/-- the part of a form of one part -/
def m1 (f : O1) (sc : Scope) (e : Expr) : Option Expr := match f with
  | .rev => (match e with
    | .Call (.Name l _) [.Call (.Name r _) [x] [] _] [] _ => if decide (("list" : Str) = l) && decide (("reversed" : Str) = r) && glB sc l && glB sc r then some x else none
    | _ => none)
  | .dictOf => (match e with
    | .Call (.Name d _) [x] [] _ => if decide (("dict" : Str) = d) && glB sc d then some x else none
    | _ => none)
  | .lenSet => (match e with
    | .Call (.Name l _) [.Call (.Name r _) [x] [] _] [] _ => if decide (("len" : Str) = l) && decide (("set" : Str) = r) && glB sc l && glB sc r then some x else none
    | _ => none)
def m2 (f : O2) (sc : Scope) (e : Expr) : Option (Expr × Expr) := match f with
  | .sindex => (match e with
    | .Call (.Attribute o nm ap) [x] [] p => if decide (("index" : Str) = nm) && baseOk o && (ap.endLine == p.line) then some (o, x) else none
    | _ => none)
  | .lindex => (match e with
    | .Call (.Attribute o nm ap) [x] [] p => if decide (("index" : Str) = nm) && baseOk o && (ap.endLine == p.line) then some (o, x) else none
    | _ => none)
  | _ => none
/-- the names of some defs -/
def pkB (sc : Scope) : List (Str × (List PyData → R PyData)) → List Expr → Bool
  | [], [] => true
  | p :: fs, .Name x _ :: es => decide (p.1 = x) && glB sc x && pkB sc fs es
  | _, _ => false
mutual
def mt {S : Type} (N : List Str) (ds : Option Nat) : Scope → E S → Expr → Bool
  | sc, .v i, e => match e with
    | .Name x _ => decide (N[i]? = some x) && visB sc x && plainName x
    | _ => false
  | _, .int i, e => match e with
    | .Constant (.int j) _ _ => decide (i = j)
    | _ => false
  | _, .bl i, e => match e with
    | .Constant (.bool j) _ _ => decide (i = j)
    | _ => false
  | _, .non, e => match e with
    | .Constant .none _ _ => true
    | _ => false
  | _, .str i, e => match e with
    | .Constant (.str j) _ _ => decide (i = j)
    | _ => false
  | sc, .glob x _, e => match e with
    | .Name y _ => decide (x = y) && glB sc x
    | _ => false
  | sc, .bin op a b, e => match e with
    | .BinOp l o r _ => decide (op = o) && mt N ds sc a l && mt N ds sc b r
    | _ => false
  | sc, .neg a, e => match e with
    | .UnaryOp .USub x _ => mt N ds sc a x
    | _ => false
  | sc, .not_ a, e => match e with
    | .UnaryOp .Not x _ => mt N ds sc a x
    | _ => false
  | sc, .and_ a b, e => match e with
    | .BoolOp .And (x :: y :: r) p => mt N ds sc a x && mt N ds sc b (.BoolOp .And (y :: r) p)
    | _ => false
  | sc, .or_ a b, e => match e with
    | .BoolOp .Or (x :: y :: r) p => mt N ds sc a x && mt N ds sc b (.BoolOp .Or (y :: r) p)
    | _ => false
  | sc, .one a, e => match e with
    | .BoolOp _ [x] _ => mt N ds sc a x
    | _ => false
  | sc, .cmp op a b, e => match e with
    | .Compare l [o] [r] _ => decide (op = o) && mt N ds sc a l && mt N ds sc b r
    | _ => false
  | sc, .chain o1 o2 a b c, e => match e with
    | .Compare l [p1, p2] [m, r] _ => decide (o1 = p1) && decide (o2 = p2) && mt N ds sc a l && mt N ds sc b m && mt N ds sc c r
    | _ => false
  | sc, .ite c a b, e => match e with
    | .IfExp t x y _ => mt N ds sc c t && mt N ds sc a x && mt N ds sc b y
    | _ => false
  | sc, .tup es, e => match e with
    | .Tuple xs _ _ => mts N ds sc es xs
    | _ => false
  | sc, .lst es, e => match e with
    | .List xs _ => mts N ds sc es xs
    | _ => false
  | _, .dict0, e => match e with
    | .Dict [] [] _ => true
    | _ => false
  | sc, .sub a i, e => match e with
    | .Subscript x y _ => mt N ds sc a x && mt N ds sc i y
    | _ => false
  | sc, .sl a lo hi, e => match e with
    | .Subscript x (.Slice (some l) (some h) none _) _ => mt N ds sc a x && mt N ds sc lo l && mt N ds sc hi h
    | _ => false
  | sc, .slL a lo, e => match e with
    | .Subscript x (.Slice (some l) none none _) _ => mt N ds sc a x && mt N ds sc lo l
    | _ => false
  | sc, .slH a hi, e => match e with
    | .Subscript x (.Slice none (some h) none _) _ => mt N ds sc a x && mt N ds sc hi h
    | _ => false
  | sc, .call nm _ es, e => match e with
    | .Call (.Name y _) (x :: xs) [] _ => decide (nm = y) && glB sc nm && mts N ds sc es (x :: xs)
    | _ => false
  | sc, .callS nm _ es, e => match e with
    | .Call (.Name y _) (.Name d _ :: xs) [] _ => decide (nm = y) && glB sc nm && (match ds with | some i => decide (N[i]? = some d) | none => false) && visB sc d && plainName d && mts N ds sc es xs
    | _ => false
  | sc, .blt f es, e => match e with
    | .Call (.Name y _) (x :: xs) [] _ => (match bltName f with | some (n, _) => decide (Str.ofString n = y) && bltNames.contains n | none => false) && glB sc y && mts N ds sc es (x :: xs)
    | _ => false
  | sc, .isa t a, e => match e with
    | .Call (.Name y _) [x, .Name z _] [] _ => decide (("isinstance" : Str) = y) && decide (Str.ofString (tyName t) = z) && glB sc y && glB sc z && mt N ds sc a x
    | _ => false
  | sc, .subG x _ i, e => match e with
    | .Subscript (.Name y _) z _ => decide (x = y) && glB sc x && okE z && mt N ds sc i z
    | _ => false
  | sc, .op1 f a, e => match m1 f sc e with
    | some x => okE x && mt N ds sc a x
    | none => false
  | sc, .op2 f a b, e => match m2 f sc e with
    | some (x, y) => okE y && mt N ds sc a x && mt N ds sc b y
    | none => false
  | _, .op3 _ _ _ _, _ => false
  | sc, .pick fs i es, e => match e with
    | .Call (.Subscript (.List ns _) ix _) (a :: as) [] _ => pkB sc fs ns && decide (fs.length ≤ 1000) && mt N ds sc i ix && mts N ds sc es (a :: as)
    | _ => false
  | sc, .lc elt tgt it c own, e => match e with
    | .ListComp x [⟨tg, iter, ifs, a⟩] scope _ => decide (a = 0) && mtI N ds sc it tg iter && blkC N sc scope own && (tgs tgt).all (fun i => (own.map (·.2)).contains i) && (match ds with | some p => !(own.map (·.2)).contains p | none => true) &&
        tgB N scope tgt tg && (match ifs with
          | [] => (match c with | .bl true => true | _ => false)
          | [t] => mt N ds (relS scope sc) c t
          | _ => false) && mt N ds (relS scope sc) elt x
    | _ => false
def mts {S : Type} (N : List Str) (ds : Option Nat) : Scope → Es S → List Expr → Bool
  | _, .nil, es => es.isEmpty
  | sc, .cons a r, es => match es with
    | x :: xs => mt N ds sc a x && mts N ds sc r xs
    | [] => false
def mtI {S : Type} (N : List Str) (ds : Option Nat) : Scope → Mir.It S → Expr → Expr → Bool
  | sc, .of a, _, e => mt N ds sc a e
  | sc, .range1 a, _, e => match e with
    | .Call (.Name y _) [x] [] _ => decide (("range" : Str) = y) && glB sc y && mt N ds sc a x
    | _ => false
  | sc, .range2 a b, _, e => match e with
    | .Call (.Name y _) [x, z] [] _ => decide (("range" : Str) = y) && glB sc y && mt N ds sc a x && mt N ds sc b z
    | _ => false
  | sc, .zip a b, tg, e => match tg, e with
    | .Tuple _ _ _, .Call (.Name y _) [x, z] [] _ => decide (("zip" : Str) = y) && glB sc y && mt N ds sc a x && mt N ds sc b z
    | _, _ => false
  | sc, .enum a, tg, e => match tg, e with
    | .Tuple _ _ _, .Call (.Name y _) [x] [] _ => decide (("enumerate" : Str) = y) && glB sc y && mt N ds sc a x
    | _, _ => false
  | sc, .sign a, _, e => mt N ds sc a e
  | sc, .range3 a b c, _, e => match e with
    | .Call (.Name y _) [x, z, w] [] _ => decide (("range" : Str) = y) && glB sc y && mt N ds sc a x && mt N ds sc b z && mt N ds sc c w
    | _ => false
  | sc, .rev a, _, e => match e with
    | .Call (.Name y _) [x] [] _ => decide (("reversed" : Str) = y) && glB sc y && mt N ds sc a x
    | _ => false
end
mutual
def NeedE {S : Type} (G : GX) (k : SK S) : E S → Prop
  | .glob x d => GlobOk G.mg x d
  | .bin _ a b => NeedE G k a ∧ NeedE G k b
  | .neg a => NeedE G k a
  | .not_ a => NeedE G k a
  | .and_ a b => NeedE G k a ∧ NeedE G k b
  | .or_ a b => NeedE G k a ∧ NeedE G k b
  | .one a => NeedE G k a
  | .cmp _ a b => NeedE G k a ∧ NeedE G k b
  | .chain _ _ a b c => NeedE G k a ∧ NeedE G k b ∧ NeedE G k c
  | .ite c a b => NeedE G k c ∧ NeedE G k a ∧ NeedE G k b
  | .tup es => NeedEs G k es
  | .lst es => NeedEs G k es
  | .sub a i => NeedE G k a ∧ NeedE G k i
  | .sl a lo hi => NeedE G k a ∧ NeedE G k lo ∧ NeedE G k hi
  | .slL a lo => NeedE G k a ∧ NeedE G k lo
  | .slH a hi => NeedE G k a ∧ NeedE G k hi
  | .call nm m es => FnS G nm m (esLen es) ∧ NeedEs G k es
  | .callS nm m es => (∃ i da, k.slot = some (i, da) ∧ FnSS G k da nm m (esLen es)) ∧ NeedEs G k es
  | .blt _ es => NeedEs G k es
  | .isa _ a => NeedE G k a
  | .op1 _ a => NeedE G k a
  | .subG x kvs i => GDictOk G x kvs ∧ NeedE G k i
  | .op2 _ a b => NeedE G k a ∧ NeedE G k b
  | .op3 _ a b c => NeedE G k a ∧ NeedE G k b ∧ NeedE G k c
  | .lc elt _ it c _ => NeedI G k it ∧ NeedE G k c ∧ NeedE G k elt
  | .pick fs i es => NeedPk G (esLen es) fs ∧ NeedE G k i ∧ NeedEs G k es
  | .v _ => True | .int _ => True | .bl _ => True | .non => True | .str _ => True | .dict0 => True
def NeedEs {S : Type} (G : GX) (k : SK S) : Es S → Prop
  | .nil => True
  | .cons a r => NeedE G k a ∧ NeedEs G k r
def NeedI {S : Type} (G : GX) (k : SK S) : Mir.It S → Prop
  | .of a => NeedE G k a
  | .range1 a => NeedE G k a
  | .range2 a b => NeedE G k a ∧ NeedE G k b
  | .zip a b => NeedE G k a ∧ NeedE G k b
  | .enum a => NeedE G k a
  | .sign a => NeedE G k a
  | .range3 a b c => NeedE G k a ∧ NeedE G k b ∧ NeedE G k c
  | .rev a => NeedE G k a
end
structure XG (X : Cx) {S : Type} (k : SK S) (N : List Str) (ds : Option Nat) (sp : Scope) : Prop extends XW X N sp where
  free : ∀ x ∈ bltNames, X.mg (Str.ofString x) = none
  slot : k.slot.map (·.1) = ds
theorem visB_ok {X : Cx} {sp : Scope} {x : Str} (h : X.env.scope = sp) (v : visB sp x = true) : Vis X.env.scope x := by
  unfold visB at v
  rw [h]
  split at v
  · rename_i q; exact .inl q
  · rename_i q; exact .inr (.inl q)
  · rename_i q; exact .inr (.inr q)
  · cases v
theorem glB_ok {X : Cx} {sp : Scope} {x : Str} (h : X.env.scope = sp) (v : glB sp x = true) : Gl X x ∧ (x == ("__debug__" : Str)) = false := by
  unfold glB at v
  simp only [Bool.and_eq_true, decide_eq_true_eq, Bool.not_eq_true'] at v
  refine ⟨?_, v.2⟩
  show X.env.scope.names.lookup x = _
  rw [h]; exact v.1
theorem plainName_ok {x : Str} (h : plainName x = true) : (x == ("__debug__" : Str)) = false ∧ (x == ("__classdict__" : Str)) = false := by
  unfold plainName at h
  simp only [Bool.and_eq_true, Bool.not_eq_true'] at h
  exact h
theorem locB_ok {sp : Scope} {x : Str} (v : locB sp x = true) : sp.names.lookup x = some .local ∨ sp.names.lookup x = some .cell := by
  unfold locB at v
  split at v
  · rename_i q; exact .inl q
  · rename_i q; exact .inr q
  · cases v
/-- a stored name of a def -/
theorem tgN_def {X : Cx} {N : List Str} {sp : Scope} {i : Nat} {e : Expr} (hn : X.N = N) (hs : X.env.scope = sp) (hf : ∀ x, X.fn x = true) (h : tgN N sp i e = true) : TgN X i e := by
  unfold tgN at h
  split at h
  · rename_i x pos
    simp only [Bool.and_eq_true, decide_eq_true_eq] at h
    refine ⟨x, pos, rfl, by rw [hn]; exact h.1, ?_, .inl (hf x)⟩
    rw [hs]; exact locB_ok h.2
  · cases h
/-- .. of a block -/
theorem tgN_blk {X : Cx} {N : List Str} {scope : Scope} {i : Nat} {e : Expr} (hn : X.N = N) (h : tgN N scope i e = true) : BlkE X scope fun X' => TgN X' i e := fun s H C cl fp => by
  unfold tgN at h
  split at h
  · rename_i x pos
    simp only [Bool.and_eq_true, decide_eq_true_eq] at h
    refine ⟨x, pos, rfl, by show X.N[i]? = _; rw [hn]; exact h.1, ?_, ?_⟩
    · rcases locB_ok h.2 with q | q
      · exact .inl (lookup_relS_keep (by decide) q)
      · exact .inr (lookup_relS_keep (by decide) q)
    · rcases locB_ok h.2 with q | q
      · exact .inr (lookup_relS_keep (by decide) q)
      · refine .inl ?_
        show (scope.names.lookup x == some .cell) = true
        rw [q]; rfl
  · cases h
theorem tgNs_of {X : Cx} {N : List Str} {sp : Scope} (q : ∀ i e, tgN N sp i e = true → TgN X i e) : ∀ {is : List Nat} {es : List Expr}, tgNs N sp is es = true → TgNs X is es
  | [], [], _ => trivial
  | i :: is, e :: es, h => by
    simp only [tgNs, Bool.and_eq_true] at h
    exact ⟨q i e h.1, tgNs_of q h.2⟩
  | [], _ :: _, h => by cases h
  | _ :: _, [], h => by cases h
theorem tgB_of {X : Cx} {N : List Str} {sp : Scope} (q : ∀ i e, tgN N sp i e = true → TgN X i e) {tg : Tg} {e : Expr} (h : tgB N sp tg e = true) : TgOk X tg e := by
  cases tg with
  | nm i => exact q i e h
  | tup is =>
    cases e with
    | Tuple es j p => exact tgNs_of q h
    | _ => cases h
theorem gl_free {X : Cx} {S : Type} {k : SK S} {N : List Str} {ds : Option Nat} {sp : Scope} (g : XG X k N ds sp) {n : String} (h : bltNames.contains n = true) : X.mg (Str.ofString n) = none := g.free n (by simpa using h)
theorem blk_g {X : Cx} {S : Type} {k : SK S} {N : List Str} {ds : Option Nat} {sp scope : Scope} (g : XG X k N ds sp) : BlkE X scope fun X' => XG X' k N ds (relS scope sp) := fun s H C cl fp =>
  { n := g.n, nd := g.nd, sc := by show relS scope X.env.scope = _; rw [g.sc], calm := g.calm, room := g.room, free := g.free, slot := g.slot }
/-- what is shown of an expression -/
structure Is (X : Cx) {S : Type} (k : SK S) (c : E S) (ex : Expr) : Prop where
  e : SE X k c ex
  t : ST X k c ex
  w : ∀ op vs p, ex = .BoolOp op vs p → SW X k c ex
  ok : okE ex = true
theorem Is.of {X : Cx} {S : Type} {k : SK S} {c : E S} {e : Expr} (h : SE X k c e) (p : plainT e = true) (o : okE e = true) : Is X k c e := ⟨h, ST.of h p, fun op vs q z => (by subst z; cases p), o⟩
theorem m1_ok {X : Cx} {S : Type} {k : SK S} {N : List Str} {ds : Option Nat} {sp : Scope} (g : XG X k N ds sp) {f : O1} {e x : Expr} (h : m1 f sp e = some x) (hk : okE x = true) : Is1 X f x e ∧ plainT e = true ∧ okE e = true := by
  unfold m1 at h
  split at h
  · split at h
    · split at h
      · rename_i hz
        cases h
        simp only [Bool.and_eq_true, decide_eq_true_eq] at hz
        obtain ⟨⟨⟨rfl, rfl⟩, h3⟩, h4⟩ := hz
        exact ⟨is_rev g.calm (glB_ok g.sc h3).1 (gl_free g (n := "list") (by decide)) (glB_ok g.sc h4).1 (gl_free g (n := "reversed") (by decide)) hk, rfl, rfl⟩
      · cases h
    · cases h
  · split at h
    · split at h
      · rename_i hz
        cases h
        simp only [Bool.and_eq_true, decide_eq_true_eq] at hz
        obtain ⟨rfl, h3⟩ := hz
        exact ⟨is_dictOf g.calm (glB_ok g.sc h3).1 (gl_free g (n := "dict") (by decide)) hk, rfl, rfl⟩
      · cases h
    · cases h
  · split at h
    · split at h
      · rename_i hz
        cases h
        simp only [Bool.and_eq_true, decide_eq_true_eq] at hz
        obtain ⟨⟨⟨rfl, rfl⟩, h3⟩, h4⟩ := hz
        exact ⟨is_lenSet g.calm (glB_ok g.sc h3).1 (gl_free g (n := "len") (by decide)) (glB_ok g.sc h4).1 (gl_free g (n := "set") (by decide)) hk, rfl, rfl⟩
      · cases h
    · cases h
theorem m2_ok {X : Cx} {S : Type} {k : SK S} {N : List Str} {ds : Option Nat} {sp : Scope} (g : XG X k N ds sp) {f : O2} {e x y : Expr} (h : m2 f sp e = some (x, y)) (hk : okE y = true) : Is2 X f x y e ∧ plainT e = true ∧ okE e = true := by
  unfold m2 at h
  split at h
  · split at h
    · split at h
      · rename_i hz
        cases h
        simp only [Bool.and_eq_true, decide_eq_true_eq] at hz
        obtain ⟨⟨rfl, h3⟩, h4⟩ := hz
        exact ⟨is_sindex hk h3 h4, rfl, rfl⟩
      · cases h
    · cases h
  · split at h
    · split at h
      · rename_i hz
        cases h
        simp only [Bool.and_eq_true, decide_eq_true_eq] at hz
        obtain ⟨⟨rfl, h3⟩, h4⟩ := hz
        exact ⟨is_lindex hk h3 h4, rfl, rfl⟩
      · cases h
    · cases h
  · cases h
theorem pkB_ok {X : Cx} {sp : Scope} (hs : X.env.scope = sp) : ∀ (fs : List (Str × (List PyData → R PyData))) (es : List Expr), pkB sp fs es = true → PkNs X fs es
  | [], [], _ => .nil
  | [], _ :: _, h => by cases h
  | (y, m) :: fs, es, h => by
    unfold pkB at h
    split at h
    · rename_i z; cases z
    · rename_i p fs' x q es' heq
      cases heq
      simp only [Bool.and_eq_true, decide_eq_true_eq] at h
      obtain ⟨⟨rfl, h2⟩, h3⟩ := h
      exact .cons (glB_ok hs h2).1 (glB_ok hs h2).2 (pkB_ok hs fs es' h3)
    · cases h
mutual
theorem mt_ok {S : Type} {k : SK S} {N : List Str} {ds : Option Nat} : ∀ (c : E S) (X : Cx) (sp : Scope) (e : Expr), XG X k N ds sp → NeedE (gx X) k c → mt N ds sp c e = true → Is X k c e
  | .v i, X, sp, e, g, nd, h => by
    simp only [mt] at h
    split at h
    · simp only [Bool.and_eq_true, decide_eq_true_eq] at h
      obtain ⟨h1, h2⟩ := plainName_ok h.2
      exact .of (se_v (by rw [g.n]; exact h.1.1) (visB_ok g.sc h.1.2) h1 h2) rfl rfl
    · cases h
  | .int i, X, sp, e, g, nd, h => by
    simp only [mt] at h
    split at h
    · simp only [decide_eq_true_eq] at h
      subst h
      exact .of se_int rfl rfl
    · cases h
  | .bl i, X, sp, e, g, nd, h => by
    simp only [mt] at h
    split at h
    · simp only [decide_eq_true_eq] at h
      subst h
      exact .of se_bl rfl rfl
    · cases h
  | .non, X, sp, e, g, nd, h => by
    simp only [mt] at h
    split at h
    · exact .of se_non rfl rfl
    · cases h
  | .str i, X, sp, e, g, nd, h => by
    simp only [mt] at h
    split at h
    · simp only [decide_eq_true_eq] at h
      subst h
      exact .of se_str rfl rfl
    · cases h
  | .glob x d, X, sp, e, g, nd, h => by
    simp only [mt] at h
    split at h
    · simp only [Bool.and_eq_true, decide_eq_true_eq] at h
      obtain ⟨rfl, h2⟩ := h
      obtain ⟨h3, h4⟩ := glB_ok g.sc h2
      exact .of (se_glob h3 h4 nd) rfl rfl
    · cases h
  | .bin op a b, X, sp, e, g, nd, h => by
    simp only [mt] at h
    split at h
    · simp only [Bool.and_eq_true, decide_eq_true_eq] at h
      obtain ⟨⟨rfl, h1⟩, h2⟩ := h
      exact .of (se_bin (mt_ok a X sp _ g nd.1 h1).e (mt_ok b X sp _ g nd.2 h2).e) rfl rfl
    · cases h
  | .neg a, X, sp, e, g, nd, h => by
    simp only [mt] at h
    split at h
    · exact .of (se_neg (mt_ok a X sp _ g nd h).e) rfl rfl
    · cases h
  | .not_ a, X, sp, e, g, nd, h => by
    simp only [mt] at h
    split at h
    · have q := mt_ok a X sp _ g nd h
      exact ⟨se_not q.e, st_not q.t, fun _ _ _ z => (nomatch z), rfl⟩
    · cases h
  | .and_ a b, X, sp, e, g, nd, h => by
    simp only [mt] at h
    split at h
    · simp only [Bool.and_eq_true] at h
      have q1 := mt_ok a X sp _ g nd.1 h.1
      have q2 := mt_ok b X sp _ g nd.2 h.2
      have sw := sw_and q1.t (q2.w _ _ _ rfl)
      exact ⟨se_and q1.e q2.e, sw.t, fun _ _ _ _ => sw, rfl⟩
    · cases h
  | .or_ a b, X, sp, e, g, nd, h => by
    simp only [mt] at h
    split at h
    · simp only [Bool.and_eq_true] at h
      have q1 := mt_ok a X sp _ g nd.1 h.1
      have q2 := mt_ok b X sp _ g nd.2 h.2
      have sw := sw_or q1.t (q2.w _ _ _ rfl)
      exact ⟨se_or q1.e q2.e, sw.t, fun _ _ _ _ => sw, rfl⟩
    · cases h
  | .one a, X, sp, e, g, nd, h => by
    simp only [mt] at h
    split at h
    · rename_i op _ _
      have q := mt_ok a X sp _ g nd h
      cases op with
      | And => exact ⟨se_one q.e, (sw_oneA q.t).t, fun _ _ _ _ => sw_oneA q.t, rfl⟩
      | Or => exact ⟨se_one q.e, (sw_oneO q.t).t, fun _ _ _ _ => sw_oneO q.t, rfl⟩
    · cases h
  | .cmp op a b, X, sp, e, g, nd, h => by
    simp only [mt] at h
    split at h
    · simp only [Bool.and_eq_true, decide_eq_true_eq] at h
      obtain ⟨⟨rfl, h1⟩, h2⟩ := h
      have q1 := mt_ok a X sp _ g nd.1 h1
      have q2 := mt_ok b X sp _ g nd.2 h2
      exact ⟨se_cmp g.room q1.e q2.e q2.ok, st_cmp g.room q1.e q2.e q2.ok, fun _ _ _ z => (nomatch z), rfl⟩
    · cases h
  | .chain o1 o2 a b c, X, sp, e, g, nd, h => by
    simp only [mt] at h
    split at h
    · simp only [Bool.and_eq_true, decide_eq_true_eq] at h
      obtain ⟨⟨⟨⟨rfl, rfl⟩, h1⟩, h2⟩, h3⟩ := h
      have q1 := mt_ok a X sp _ g nd.1 h1
      have q2 := mt_ok b X sp _ g nd.2.1 h2
      have q3 := mt_ok c X sp _ g nd.2.2 h3
      exact ⟨se_chain g.room q1.e q2.e q3.e q2.ok q3.ok, st_chain g.room q1.e q2.e q3.e q2.ok q3.ok, fun _ _ _ z => (nomatch z), rfl⟩
    · cases h
  | .ite c a b, X, sp, e, g, nd, h => by
    simp only [mt] at h
    split at h
    · simp only [Bool.and_eq_true] at h
      have q1 := mt_ok c X sp _ g nd.1 h.1.1
      have q2 := mt_ok a X sp _ g nd.2.1 h.1.2
      have q3 := mt_ok b X sp _ g nd.2.2 h.2
      exact ⟨se_ite q1.t q2.e q3.e, st_ite q1.t q2.t q3.t, fun _ _ _ z => (nomatch z), rfl⟩
    · cases h
  | .tup es, X, sp, e, g, nd, h => by
    simp only [mt] at h
    split at h
    · exact .of (se_tup (mts_ok es X sp _ g nd h).1) rfl rfl
    · cases h
  | .lst es, X, sp, e, g, nd, h => by
    simp only [mt] at h
    split at h
    · exact .of (se_lst (mts_ok es X sp _ g nd h).1) rfl rfl
    · cases h
  | .dict0, X, sp, e, g, nd, h => by
    simp only [mt] at h
    split at h
    · exact .of se_dict0 rfl rfl
    · cases h
  | .sub a i, X, sp, e, g, nd, h => by
    simp only [mt] at h
    split at h
    · simp only [Bool.and_eq_true] at h
      have q2 := mt_ok i X sp _ g nd.2 h.2
      exact .of (se_sub g.room (mt_ok a X sp _ g nd.1 h.1).e q2.e q2.ok) rfl rfl
    · cases h
  | .sl a lo hi, X, sp, e, g, nd, h => by
    simp only [mt] at h
    split at h
    · simp only [Bool.and_eq_true] at h
      exact .of (se_sl (mt_ok a X sp _ g nd.1 h.1.1).e (mt_ok lo X sp _ g nd.2.1 h.1.2).e (mt_ok hi X sp _ g nd.2.2 h.2).e) rfl rfl
    · cases h
  | .slL a lo, X, sp, e, g, nd, h => by
    simp only [mt] at h
    split at h
    · simp only [Bool.and_eq_true] at h
      exact .of (se_slL (mt_ok a X sp _ g nd.1 h.1).e (mt_ok lo X sp _ g nd.2 h.2).e) rfl rfl
    · cases h
  | .slH a hi, X, sp, e, g, nd, h => by
    simp only [mt] at h
    split at h
    · simp only [Bool.and_eq_true] at h
      exact .of (se_slH (mt_ok a X sp _ g nd.1 h.1).e (mt_ok hi X sp _ g nd.2 h.2).e) rfl rfl
    · cases h
  | .call nm m es, X, sp, e, g, nd, h => by
    simp only [mt] at h
    split at h
    · simp only [Bool.and_eq_true, decide_eq_true_eq] at h
      obtain ⟨⟨rfl, h2⟩, h3⟩ := h
      obtain ⟨h4, h5⟩ := glB_ok g.sc h2
      obtain ⟨a1, a2⟩ := mts_ok es X sp _ g nd.2 h3
      exact .of (se_call nd.1 h4 h5 a1 a2) rfl rfl
    · cases h
  | .callS nm m es, X, sp, e, g, nd, h => by
    simp only [mt] at h
    split at h
    · simp only [Bool.and_eq_true, decide_eq_true_eq] at h
      obtain ⟨⟨⟨⟨⟨rfl, h2⟩, h3⟩, h4⟩, h5⟩, h6⟩ := h
      obtain ⟨h7, h8⟩ := glB_ok g.sc h2
      obtain ⟨h9, h10⟩ := plainName_ok h5
      obtain ⟨a1, a2⟩ := mts_ok es X sp _ g nd.2 h6
      obtain ⟨i, da, hs, hf⟩ := nd.1
      have hi : ds = some i := by rw [← g.slot, hs]; rfl
      rw [hi] at h3
      simp only [decide_eq_true_eq] at h3
      exact .of (se_callS hs (by rw [g.n]; exact h3) (visB_ok g.sc h4) h9 h10 hf h7 h8 a1 a2) rfl rfl
    · cases h
  | .blt f es, X, sp, e, g, nd, h => by
    simp only [mt] at h
    split at h
    · simp only [Bool.and_eq_true, decide_eq_true_eq] at h
      obtain ⟨⟨h1, h2⟩, h3⟩ := h
      split at h1
      · rename_i n ty hb
        simp only [Bool.and_eq_true, decide_eq_true_eq] at h1
        obtain ⟨rfl, h1⟩ := h1
        obtain ⟨h4, h5⟩ := glB_ok g.sc h2
        obtain ⟨a1, a2⟩ := mts_ok es X sp _ g nd h3
        exact .of (se_blt g.room g.calm hb h4 (gl_free g h1) a1 a2) rfl rfl
      · cases h1
    · cases h
  | .isa t a, X, sp, e, g, nd, h => by
    simp only [mt] at h
    split at h
    · simp only [Bool.and_eq_true, decide_eq_true_eq] at h
      obtain ⟨⟨⟨⟨rfl, rfl⟩, h2⟩, h3⟩, h4⟩ := h
      have q := mt_ok a X sp _ g nd h4
      exact .of (se_isa (glB_ok g.sc h2).1 (gl_free g (n := "isinstance") (by decide)) (glB_ok g.sc h3).1 (gl_free g (by cases t <;> decide)) q.e q.ok) rfl rfl
    · cases h
  | .subG x kvs i, X, sp, e, g, nd, h => by
    simp only [mt] at h
    split at h
    · simp only [Bool.and_eq_true, decide_eq_true_eq] at h
      obtain ⟨⟨⟨rfl, h2⟩, h3⟩, h4⟩ := h
      obtain ⟨h5, h6⟩ := glB_ok g.sc h2
      exact .of (se_subG h5 h6 nd.1 (mt_ok i X sp _ g nd.2 h4).e h3) rfl rfl
    · cases h
  | .op1 f a, X, sp, e, g, nd, h => by
    simp only [mt] at h
    split at h
    · rename_i x hx
      rw [Bool.and_eq_true] at h
      obtain ⟨i, p, o⟩ := m1_ok g hx h.1
      exact .of (se_op1 i (mt_ok a X sp _ g nd h.2).e) p o
    · cases h
  | .op2 f a b, X, sp, e, g, nd, h => by
    simp only [mt] at h
    split at h
    · rename_i x y hx
      simp only [Bool.and_eq_true] at h
      obtain ⟨i, p, o⟩ := m2_ok g hx h.1.1
      exact .of (se_op2 i (mt_ok a X sp _ g nd.1 h.1.2).e (mt_ok b X sp _ g nd.2 h.2).e) p o
    · cases h
  | .op3 f a b c, X, sp, e, g, nd, h => by
    simp only [mt] at h
    cases h
  | .lc elt tgt it c own, X, sp, e, g, nd, h => by
    simp only [mt] at h
    split at h
    · rename_i x tg iter ifs a scope pos
      simp only [Bool.and_eq_true, decide_eq_true_eq, List.all_eq_true] at h
      obtain ⟨⟨⟨⟨⟨⟨⟨rfl, h1⟩, h2⟩, h3⟩, h4⟩, h5⟩, h6⟩, h7⟩ := h
      obtain ⟨qi, oi⟩ := mtI_ok it X sp tg _ g nd.1 h1
      refine .of (se_lc (by rw [g.n]; exact g.nd) g.calm qi (by rw [g.n, g.sc]; exact blkOk_by h2) oi (fun i hi => by simpa using h3 i hi) (fun p hp => ?_) (fun s H C cl fp => tgB_of (fun i e q => tgN_blk g.n q s H C cl fp) h5) (fun s H C cl fp => ?_) (fun s H C cl fp => ?_)) rfl rfl
      · have hi : ds = some p.1 := by rw [← g.slot, hp]; rfl
        rw [hi] at h4
        simpa using h4
      · split at h6
        · split at h6
          · exact .inl ⟨rfl, rfl⟩
          · cases h6
        · exact .inr ⟨_, rfl, (mt_ok c _ _ _ (blk_g g s H C cl fp) nd.2.1 h6).t⟩
        · cases h6
      · exact (mt_ok elt _ _ _ (blk_g g s H C cl fp) nd.2.2 h7).e
    · cases h
  | .pick fs i es, X, sp, e, g, nd, h => by
    simp only [mt] at h
    split at h
    · simp only [Bool.and_eq_true, decide_eq_true_eq] at h
      obtain ⟨⟨⟨h1, h2⟩, h3⟩, h4⟩ := h
      have q := mt_ok i X sp _ g nd.2.1 h3
      obtain ⟨a1, a2⟩ := mts_ok es X sp _ g nd.2.2 h4
      exact .of (se_pick (pkB_ok g.sc fs _ h1) nd.1 h2 q.e q.ok a1 a2) rfl rfl
    · cases h
theorem mts_ok {S : Type} {k : SK S} {N : List Str} {ds : Option Nat} : ∀ (c : Es S) (X : Cx) (sp : Scope) (es : List Expr), XG X k N ds sp → NeedEs (gx X) k c → mts N ds sp c es = true → SA X k c es ∧ es.all okE = true
  | .nil, X, sp, es, g, nd, h => by
    cases es with
    | nil => exact ⟨sa_nil, rfl⟩
    | cons a b => cases h
  | .cons a r, X, sp, es, g, nd, h => by
    simp only [mts] at h
    split at h
    · simp only [Bool.and_eq_true] at h
      have q := mt_ok a X sp _ g nd.1 h.1
      obtain ⟨a1, a2⟩ := mts_ok r X sp _ g nd.2 h.2
      exact ⟨sa_cons q.e a1 q.ok, by simp [q.ok, a2]⟩
    · cases h
theorem mtI_ok {S : Type} {k : SK S} {N : List Str} {ds : Option Nat} : ∀ (c : Mir.It S) (X : Cx) (sp : Scope) (tg e : Expr), XG X k N ds sp → NeedI (gx X) k c → mtI N ds sp c tg e = true → SI X k tg c e ∧ okE e = true
  | .of a, X, sp, tg, e, g, nd, h => by
    simp only [mtI] at h
    have q := mt_ok a X sp _ g nd h
    exact ⟨si_of q.e, q.ok⟩
  | .sign a, X, sp, tg, e, g, nd, h => by
    simp only [mtI] at h
    have q := mt_ok a X sp _ g nd h
    exact ⟨si_sign q.e, q.ok⟩
  | .range1 a, X, sp, tg, e, g, nd, h => by
    simp only [mtI] at h
    split at h
    · simp only [Bool.and_eq_true, decide_eq_true_eq] at h
      obtain ⟨⟨rfl, h2⟩, h3⟩ := h
      have q := mt_ok a X sp _ g nd h3
      exact ⟨si_range1 (glB_ok g.sc h2).1 (gl_free g (n := "range") (by decide)) q.e q.ok, rfl⟩
    · cases h
  | .range2 a b, X, sp, tg, e, g, nd, h => by
    simp only [mtI] at h
    split at h
    · simp only [Bool.and_eq_true, decide_eq_true_eq] at h
      obtain ⟨⟨⟨rfl, h2⟩, h3⟩, h4⟩ := h
      have q := mt_ok a X sp _ g nd.1 h3
      have q2 := mt_ok b X sp _ g nd.2 h4
      exact ⟨si_range2 (glB_ok g.sc h2).1 (gl_free g (n := "range") (by decide)) q.e q2.e q.ok q2.ok, rfl⟩
    · cases h
  | .zip a b, X, sp, tg, e, g, nd, h => by
    simp only [mtI] at h
    split at h
    · simp only [Bool.and_eq_true, decide_eq_true_eq] at h
      obtain ⟨⟨⟨rfl, h2⟩, h3⟩, h4⟩ := h
      have q := mt_ok a X sp _ g nd.1 h3
      have q2 := mt_ok b X sp _ g nd.2 h4
      exact ⟨si_zip (glB_ok g.sc h2).1 (gl_free g (n := "zip") (by decide)) q.e q2.e q.ok q2.ok, rfl⟩
    · cases h
  | .enum a, X, sp, tg, e, g, nd, h => by
    simp only [mtI] at h
    split at h
    · simp only [Bool.and_eq_true, decide_eq_true_eq] at h
      obtain ⟨⟨rfl, h2⟩, h3⟩ := h
      have q := mt_ok a X sp _ g nd h3
      exact ⟨si_enum (glB_ok g.sc h2).1 (gl_free g (n := "enumerate") (by decide)) q.e q.ok, rfl⟩
    · cases h
  | .range3 a b c, X, sp, tg, e, g, nd, h => by
    simp only [mtI] at h
    split at h
    · simp only [Bool.and_eq_true, decide_eq_true_eq] at h
      obtain ⟨⟨⟨⟨rfl, h2⟩, h3⟩, h4⟩, h5⟩ := h
      have q := mt_ok a X sp _ g nd.1 h3
      have q2 := mt_ok b X sp _ g nd.2.1 h4
      have q3 := mt_ok c X sp _ g nd.2.2 h5
      exact ⟨si_range3 (glB_ok g.sc h2).1 (gl_free g (n := "range") (by decide)) q.e q2.e q3.e q.ok q2.ok q3.ok, rfl⟩
    · cases h
  | .rev a, X, sp, tg, e, g, nd, h => by
    simp only [mtI] at h
    split at h
    · simp only [Bool.and_eq_true, decide_eq_true_eq] at h
      obtain ⟨⟨rfl, h2⟩, h3⟩ := h
      have q := mt_ok a X sp _ g nd h3
      exact ⟨si_rev (glB_ok g.sc h2).1 (gl_free g (n := "reversed") (by decide)) q.e q.ok, rfl⟩
    · cases h
end
end Mir

set_option Elab.async false
set_option linter.all false
set_option maxRecDepth 100000
set_option maxHeartbeats 4000000
/-! Mir, part I: the slots of a def, some of which own what stands there. -/
namespace Mir
open PySem PySem.Spec PyProof.Rows L2

mutual
theorem RepK.imm {T T' : Addr → Prop} {H : Hp} (n : NoTup T' H) : ∀ (ds : List (PyData × PyData)) (xs : List (Key × V)), Mir.imm.go (ds.map (·.2)) = true → RepK T H ds xs → RepK T' H ds xs
  | [], _, _, h => by simpa [RepK] using h
  | (kd, d) :: ds, xs, i, h => by
    obtain ⟨kk, x, r, e, e2, h1, h2⟩ := by simpa only [RepK] using h
    rw [List.map_cons, Mir.imm.go, Bool.and_eq_true] at i
    simp only [RepK]
    exact ⟨kk, x, r, e, e2, Rep.imm n d x i.1 h1, RepK.imm n ds r i.2 h2⟩
theorem RepT.imm {T T' : Addr → Prop} {H : Hp} (n : NoTup T' H) : ∀ (ds : List (PyData × PyData)) (xs : List (List Key × V)), Mir.imm.go (ds.map (·.2)) = true → RepT T H ds xs → RepT T' H ds xs
  | [], _, _, h => by simpa [RepT] using h
  | (kd, d) :: ds, xs, i, h => by
    obtain ⟨kk, x, r, e, e2, h1, h2⟩ := by simpa only [RepT] using h
    rw [List.map_cons, Mir.imm.go, Bool.and_eq_true] at i
    simp only [RepT]
    exact ⟨kk, x, r, e, e2, Rep.imm n d x i.1 h1, RepT.imm n ds r i.2 h2⟩
end
theorem Own1.imm {T T' : Addr → Prop} {H : Hp} (n : NoTup T' H) : ∀ {d : PyData} {a : Addr}, immI d = true → Own1 T H d a → Own1 T' H d a
  | .list ds, a, i, ⟨xs, e, z, r⟩ => ⟨xs, e, z, RepL.imm n ds xs i r⟩
  | .dict kvs, a, i, .inl ⟨ks, e, r⟩ => .inl ⟨ks, e, RepK.imm n _ _ i r⟩
  | .dict kvs, a, i, .inr ⟨ks, e, r⟩ => .inr ⟨ks, e, RepT.imm n _ _ i r⟩
/-- the addresses that are not to be met: the caller's, the owned ones -/
def TO (T0 : Addr → Prop) (O : Nat → Option Addr) : Addr → Prop := fun a => T0 a ∨ ∃ i, O i = some a
theorem TO.mono {T0 : Addr → Prop} {O O' : Nat → Option Addr} (h : ∀ i a, O' i = some a → O i = some a) : ∀ a, TO T0 O' a → TO T0 O a := fun a t => t.imp id fun ⟨i, q⟩ => ⟨i, h i a q⟩
section
variable {S : Type}
/-- the slots: T0 the caller's addresses, H0 the heap at the entry, O who owns what, P what is to stay -/
structure EnvO (k : SK S) (T0 : Addr → Prop) (H0 : Hp) (P : Addr → HO → Prop) (O : Nat → Option Addr) (ρ : Env) (st : S) (σ : L2.St) (H : Hp) : Prop where
  v0 : ∀ i d, ρ[i]? = some (some d) → O i = none → ∃ v, σ[i]? = some (some v) ∧ Rep (TO T0 O) H d v
  v1 : ∀ i a, O i = some a → ∃ d, ρ[i]? = some (some d) ∧ σ[i]? = some (some (.ref a)) ∧ Own1 (TO T0 O) H d a
  inj : ∀ i j a, O i = some a → O j = some a → i = j
  new : ∀ i a, O i = some a → H0 a = none
  ext : Ext k.loc H0 H
  dom0 : ∀ a, T0 a → ∃ o, H0 a = some o ∧ Mut (some o)
  loc : ∀ a, k.loc a → T0 a
  rel : k.rel st H
  ds : ∀ p, k.slot = some p → σ[p.1]? = some (some (.ref p.2))
  len : ρ.length = σ.length
  kept : ∀ a o, P a o → ¬ TO T0 O a ∧ H a = some o
variable {k : SK S} {T0 : Addr → Prop} {H0 H H' : Hp} {P : Addr → HO → Prop} {O : Nat → Option Addr} {ρ : Env} {st st' : S} {σ : L2.St}
theorem EnvO.nloc (e : EnvO k T0 H0 P O ρ st σ H) {i : Nat} {a : Addr} (h : O i = some a) : ¬ k.loc a := fun l => by
  obtain ⟨o, q, _⟩ := e.dom0 a (e.loc a l)
  rw [e.new i a h] at q; cases q
theorem EnvO.nT0 (e : EnvO k T0 H0 P O ρ st σ H) {i : Nat} {a : Addr} (h : O i = some a) : ¬ T0 a := fun l => by
  obtain ⟨o, q, _⟩ := e.dom0 a l
  rw [e.new i a h] at q; cases q
/-- some slots let go -/
theorem EnvO.drop (e : EnvO k T0 H0 P O ρ st σ H) (O' : Nat → Option Addr) (h : ∀ i, O' i = O i ∨ O' i = none) : EnvO k T0 H0 P O' ρ st σ H := by
  have sub : ∀ i a, O' i = some a → O i = some a := fun i a q => by
    rcases h i with z | z
    · rw [← z]; exact q
    · rw [z] at q; cases q
  have less : ∀ a, TO T0 O' a → TO T0 O a := TO.mono sub
  refine { e with v0 := fun i d hd ho => ?_, v1 := fun i a ho => ?_, inj := fun i j a p q => e.inj i j a (sub _ _ p) (sub _ _ q), new := fun i a p => e.new i a (sub _ _ p), kept := fun a o p => ⟨fun t => (e.kept a o p).1 (less a t), (e.kept a o p).2⟩ }
  · cases q : O i with
    | none =>
      obtain ⟨v, a, b⟩ := e.v0 i d hd q
      exact ⟨v, a, b.less less⟩
    | some a =>
      obtain ⟨d', h1, h2, h3⟩ := e.v1 i a q
      rw [hd] at h1; cases h1
      refine ⟨_, h2, h3.rep less fun t => ?_⟩
      rcases t with t | ⟨j, t⟩
      · exact e.nT0 q t
      · have := e.inj i j a q (sub _ _ t)
        subst this
        rw [ho] at t; cases t
  · obtain ⟨d, h1, h2, h3⟩ := e.v1 i a (sub _ _ ho)
    exact ⟨d, h1, h2, h3.mv (.less less) fun o q => q⟩
theorem EnvO.ok {X : Cx} (e : EnvO k T0 H0 P O ρ st σ H) : Ok X k (TO T0 O) st H := by
  refine ⟨fun a t => ?_, fun a l => .inl (e.loc a l), e.rel⟩
  rcases t with t | ⟨i, t⟩
  · by_cases l : k.loc a
    · obtain ⟨xs, q⟩ := k.there _ _ a e.rel l
      exact ⟨_, q, trivial⟩
    · obtain ⟨o, q, m⟩ := e.dom0 a t
      exact ⟨o, e.ext a o l q, m⟩
  · obtain ⟨d, _, _, h⟩ := e.v1 i a t
    exact h.there
/-- what an expression sees, the slots that it names let go -/
theorem EnvO.envR {X : Cx} (e : EnvO k T0 H0 P O ρ st σ H) {L : List Nat} (h : ∀ i ∈ L, O i = none) : EnvR X k (TO T0 O) L ρ σ H :=
  ⟨fun i hi d hd => e.v0 i d hd (h i hi), e.ds, Nat.le_of_eq e.len⟩
theorem EnvO.locT (e : EnvO k T0 H0 P O ρ st σ H) : ∀ a, k.loc a → TO T0 O a := fun a l => .inl (e.loc a l)
/-- behind an expression -/
theorem EnvO.next (e : EnvO k T0 H0 P O ρ st σ H) (x : Ext k.loc H H') (r : k.rel st' H') : EnvO k T0 H0 P O ρ st' σ H' := by
  have x' : Ext (TO T0 O) H H' := x.mono e.locT
  refine { e with v0 := fun i d hd ho => ?_, v1 := fun i a ho => ?_, ext := e.ext.trans x, rel := r, kept := fun a o p => ⟨(e.kept a o p).1, x a o (fun l => (e.kept a o p).1 (e.locT a l)) (e.kept a o p).2⟩ }
  · obtain ⟨v, h1, h2⟩ := e.v0 i d hd ho
    exact ⟨v, h1, h2.ext x'⟩
  · obtain ⟨d, h1, h2, h3⟩ := e.v1 i a ho
    exact ⟨d, h1, h2, h3.mv (.of_ext x') fun o q => x a o (e.nloc ho) q⟩
theorem EnvO.notup (e : EnvO k T0 H0 P O ρ st σ H) : NoTup (TO T0 O) H := fun a xs h t => by
  rcases t with t | ⟨i, t⟩
  · by_cases l : k.loc a
    · obtain ⟨ys, q⟩ := k.there _ _ a e.rel l
      rw [h] at q; cases q
    · obtain ⟨o, q, m⟩ := e.dom0 a t
      rw [e.ext a o l q] at h; cases h; exact m
  · obtain ⟨d, _, _, q⟩ := e.v1 i a t
    obtain ⟨o, q, m⟩ := q.there
    rw [h] at q; cases q; exact m
/-- what is owned is written -/
theorem EnvO.write (e : EnvO k T0 H0 P O ρ st σ H) {i : Nat} {a : Addr} {o : HO} {d' : PyData} (h : O i = some a) (q : Own1 (TO T0 O) (upd H a o) d' a) : EnvO k T0 H0 P O (ρ.set i (some d')) st σ (upd H a o) := by
  have hT : TO T0 O a := .inr ⟨i, h⟩
  have x : Ext (TO T0 O) H (upd H a o) := .wr hT
  have hi : i < ρ.length := by
    obtain ⟨d, h1, _⟩ := e.v1 i a h
    exact (List.getElem?_eq_some_iff.mp h1).1
  refine { e with v0 := fun j d hd ho => ?_, v1 := fun j b ho => ?_, ext := fun b u nl hb => ?_, rel := ?_, len := by rw [List.length_set]; exact e.len, kept := fun b u p => ⟨(e.kept b u p).1, ?_⟩ }
  · have hne : i ≠ j := fun z => by rw [z, ho] at h; cases h
    rw [List.getElem?_set_ne hne] at hd
    obtain ⟨v, h1, h2⟩ := e.v0 j d hd ho
    exact ⟨v, h1, h2.ext x⟩
  · by_cases z : i = j
    · subst z
      rw [h] at ho; cases ho
      obtain ⟨d, _, h2, _⟩ := e.v1 i a h
      exact ⟨d', by rw [List.getElem?_set_self hi], h2, q⟩
    · obtain ⟨d, h1, h2, h3⟩ := e.v1 j b ho
      have hb : b ≠ a := fun w => z (e.inj i j a h (by rw [← w]; exact ho))
      exact ⟨d, by rw [List.getElem?_set_ne z]; exact h1, h2, h3.mv (.of_ext x) fun u hu => by rw [upd_ne hb]; exact hu⟩
  · have hb2 : b ≠ a := fun w => by rw [w, e.new i a h] at hb; cases hb
    rw [upd_ne hb2]; exact e.ext b u nl hb
  · refine k.keep _ _ _ e.rel fun b l => upd_ne fun w => e.nloc h (by rw [← w]; exact l)
  · rw [upd_ne (fun w => (e.kept b u p).1 (by rw [w]; exact hT))]
    exact (e.kept b u p).2

/-! ### values that have come, some of which are fresh -/
structure AF (T : Addr → Prop) (H0 H : Hp) (O : Nat → Option Addr) (ds : List PyData) (vs : List V) : Prop where
  len : ds.length = vs.length
  v0 : ∀ j d, ds[j]? = some d → O j = none → ∃ v, vs[j]? = some v ∧ Rep (TO T O) H d v
  v1 : ∀ j a, O j = some a → ∃ d, ds[j]? = some d ∧ vs[j]? = some (.ref a) ∧ Own1 (TO T O) H d a
  inj : ∀ i j a, O i = some a → O j = some a → i = j
  new : ∀ j a, O j = some a → H0 a = none ∧ ¬ T a
theorem AF.plain {T : Addr → Prop} {H0 H : Hp} {ds : List PyData} {vs : List V} (r : RepL T H ds vs) : AF T H0 H (fun _ => none) ds vs :=
  { len := r.length
    v0 := fun j d hd _ => by
      obtain ⟨x, h1, h2⟩ := r.get hd
      exact ⟨x, h1, h2.less fun a t => t.elim id fun ⟨_, z⟩ => nomatch z⟩
    v1 := fun _ _ h => nomatch h
    inj := fun _ _ _ h => nomatch h
    new := fun _ _ h => nomatch h }
theorem AF.nil {T : Addr → Prop} {H0 H : Hp} : AF T H0 H (fun _ => none) [] [] := .plain .nil
def shO (o : Option Addr) (O : Nat → Option Addr) : Nat → Option Addr
  | 0 => o
  | j + 1 => O j
theorem TO.sh {T : Addr → Prop} {O : Nat → Option Addr} {a : Addr} : TO T (shO (some a) O) = TO (fun b => T b ∨ b = a) O := by
  funext b
  apply propext
  constructor
  · rintro (t | ⟨j, t⟩)
    · exact .inl (.inl t)
    · cases j with
      | zero => cases t; exact .inl (.inr rfl)
      | succ j => exact .inr ⟨j, t⟩
  · rintro ((t | rfl) | ⟨j, t⟩)
    · exact .inl t
    · exact .inr ⟨0, rfl⟩
    · exact .inr ⟨j + 1, t⟩
theorem TO.sh0 {T : Addr → Prop} {O : Nat → Option Addr} : TO T (shO none O) = TO T O := by
  funext b
  apply propext
  constructor
  · rintro (t | ⟨j, t⟩)
    · exact .inl t
    · cases j with
      | zero => cases t
      | succ j => exact .inr ⟨j, t⟩
  · rintro (t | ⟨j, t⟩)
    · exact .inl t
    · exact .inr ⟨j + 1, t⟩
/-- a fresh one ahead -/
theorem AF.consF {T : Addr → Prop} {H0 H1 H2 : Hp} {O : Nat → Option Addr} {d : PyData} {ds : List PyData} {a : Addr} {vs : List V} (h0 : H0 a = none) (hT : ¬ T a) (q : Own1 (fun b => T b ∨ b = a) H1 d a)
    (x : ∀ b o, ¬ T b → H1 b = some o → H2 b = some o) (x0 : ∀ b, H1 b = none → H0 b = none) (r : AF (fun b => T b ∨ b = a) H1 H2 O ds vs) : AF T H0 H2 (shO (some a) O) (d :: ds) (.ref a :: vs) := by
  have mv : Mv (fun b => T b ∨ b = a) (TO T (shO (some a) O)) H1 H2 := by
    rw [TO.sh]
    refine ⟨fun b o n hb t => ?_, fun b o n hb => x b o (fun t => n (.inl t)) hb⟩
    rcases t with t | ⟨j, t⟩
    · exact n t
    · rw [(r.new j b t).1] at hb; cases hb
  refine ⟨by simp [r.len], fun j e hj ho => ?_, fun j b ho => ?_, fun i j b hi hj => ?_, fun j b ho => ?_⟩
  · cases j with
    | zero => cases ho
    | succ j =>
      rw [TO.sh]
      exact r.v0 j e hj ho
  · cases j with
    | zero => cases ho; exact ⟨d, rfl, rfl, q.mv mv fun o ho => x a o hT ho⟩
    | succ j =>
      rw [TO.sh]
      exact r.v1 j b ho
  · cases i with
    | zero =>
      cases hi
      cases j with
      | zero => rfl
      | succ j => exact ((r.new j a hj).2 (.inr rfl)).elim
    | succ i =>
      cases j with
      | zero => cases hj; exact ((r.new i a hi).2 (.inr rfl)).elim
      | succ j => rw [r.inj i j b hi hj]
  · cases j with
    | zero => cases ho; exact ⟨h0, hT⟩
    | succ j => exact ⟨x0 b (r.new j b ho).1, fun t => (r.new j b ho).2 (.inl t)⟩
/-- .. any other -/
theorem AF.cons {T : Addr → Prop} {H0 H1 H2 : Hp} {O : Nat → Option Addr} {d : PyData} {ds : List PyData} {v : V} {vs : List V} (q : Rep T H1 d v)
    (x : ∀ b o, ¬ T b → H1 b = some o → H2 b = some o) (x0 : ∀ b, H1 b = none → H0 b = none) (r : AF T H1 H2 O ds vs) : AF T H0 H2 (shO none O) (d :: ds) (v :: vs) := by
  have mv : Mv T (TO T (shO none O)) H1 H2 := by
    rw [TO.sh0]
    refine ⟨fun b o n hb t => ?_, x⟩
    rcases t with t | ⟨j, t⟩
    · exact n t
    · rw [(r.new j b t).1] at hb; cases hb
  refine ⟨by simp [r.len], fun j e hj ho => ?_, fun j b ho => ?_, fun i j b hi hj => ?_, fun j b ho => ?_⟩
  · cases j with
    | zero => cases hj; exact ⟨v, rfl, Rep.mv mv _ _ q⟩
    | succ j =>
      rw [TO.sh0]
      exact r.v0 j e hj ho
  · cases j with
    | zero => cases ho
    | succ j =>
      rw [TO.sh0]
      exact r.v1 j b ho
  · cases i with
    | zero => cases hi
    | succ i =>
      cases j with
      | zero => cases hj
      | succ j => rw [r.inj i j b hi hj]
  · cases j with
    | zero => cases ho
    | succ j => exact ⟨x0 b (r.new j b ho).1, (r.new j b ho).2⟩
/-- .. with more to be kept apart: what is within is immutable -/
theorem AF.imm {T T' : Addr → Prop} {H0 H : Hp} {O : Nat → Option Addr} {ds : List PyData} {vs : List V} {ks : List Bool} (r : AF T H0 H O ds vs) (n : NoTup T' H) (hk : immKs ks ds = true) (ho : ∀ j, O j ≠ none ↔ ks[j]? = some true)
    (h0 : ∀ a, T' a → T a ∨ H0 a ≠ none) : AF T' H0 H O ds vs := by
  have nt : NoTup (TO T' O) H := fun a xs h t => t.elim (n a xs h) fun ⟨j, z⟩ => by
    obtain ⟨d, _, _, q⟩ := r.v1 j a z
    obtain ⟨o, q, m⟩ := q.there
    rw [h] at q; cases q; exact m
  have im : ∀ (ks : List Bool) (ds : List PyData) (j : Nat) (d : PyData), immKs ks ds = true → ds[j]? = some d → immK (ks[j]? == some true) d = true := by
    intro ks ds
    induction ds generalizing ks with
    | nil => intro j d _ h; simp at h
    | cons e ds ih =>
      intro j d hk h
      cases ks with
      | nil =>
        rw [immKs, Bool.and_eq_true] at hk
        cases j with
        | zero => cases h; exact hk.1
        | succ j =>
          have := ih [] j d hk.2 h
          simpa using this
      | cons b ks =>
        rw [immKs, Bool.and_eq_true] at hk
        cases j with
        | zero => cases h; cases b <;> exact hk.1
        | succ j => exact ih ks j d hk.2 h
  refine ⟨r.len, fun j d hd hn => ?_, fun j a ha => ?_, r.inj, fun j a ha => ⟨(r.new j a ha).1, fun t => ?_⟩⟩
  · obtain ⟨v, h1, h2⟩ := r.v0 j d hd hn
    have := im ks ds j d hk hd
    have hk : (ks[j]? == some true) = false := by
      cases q : ks[j]? == some true with
      | false => rfl
      | true => exact ((ho j).mpr (by simpa using q) hn).elim
    rw [hk] at this
    exact ⟨v, h1, Rep.imm nt d v this h2⟩
  · obtain ⟨d, h1, h2, h3⟩ := r.v1 j a ha
    have := im ks ds j d hk h1
    rw [(ho j).mp (by rw [ha]; exact fun z => nomatch z)] at this
    exact ⟨d, h1, h2, h3.imm nt this⟩
  · rcases h0 a t with z | z
    · exact (r.new j a ha).2 z
    · exact z (r.new j a ha).1

/-! ### values are put into slots -/
theorem setAll_len : ∀ {is : List Nat} {ds : List PyData} {ρ : Env}, (setAll is ds ρ).length = ρ.length
  | [], _, _ => rfl
  | i :: is, [], _ => rfl
  | i :: is, d :: ds, ρ => by
    show (setAll is ds (ρ.set i (some d))).length = _
    rw [setAll_len, List.length_set]
theorem setAllS_len : ∀ {is : List Nat} {ds : List V} {ρ : L2.St}, (setAllS is ds ρ).length = ρ.length
  | [], _, _ => rfl
  | i :: is, [], _ => rfl
  | i :: is, d :: ds, ρ => by
    show (setAllS is ds (ρ.set i (some d))).length = _
    rw [setAllS_len, List.length_set]
theorem setAll_ne : ∀ {is : List Nat} {ds : List PyData} {ρ : Env} {i : Nat}, i ∉ is → (setAll is ds ρ)[i]? = ρ[i]?
  | [], _, _, _, _ => rfl
  | i :: is, [], _, _, _ => rfl
  | i :: is, d :: ds, ρ, j, h => by
    rw [List.mem_cons, not_or] at h
    show (setAll is ds (ρ.set i (some d)))[j]? = _
    rw [setAll_ne h.2, List.getElem?_set_ne (Ne.symm h.1)]
theorem setAllS_ne : ∀ {is : List Nat} {ds : List V} {ρ : L2.St} {i : Nat}, i ∉ is → (setAllS is ds ρ)[i]? = ρ[i]?
  | [], _, _, _, _ => rfl
  | i :: is, [], _, _, _ => rfl
  | i :: is, d :: ds, ρ, j, h => by
    rw [List.mem_cons, not_or] at h
    show (setAllS is ds (ρ.set i (some d)))[j]? = _
    rw [setAllS_ne h.2, List.getElem?_set_ne (Ne.symm h.1)]
theorem setAll_at : ∀ {is : List Nat} {ds : List PyData} {ρ : Env} {i j : Nat} {d : PyData}, is.Nodup → is[j]? = some i → ds[j]? = some d → i < ρ.length → (setAll is ds ρ)[i]? = some (some d)
  | [], _, _, _, _, _, _, h, _, _ => by simp at h
  | i :: is, [], _, _, _, _, _, _, h, _ => by simp at h
  | i :: is, e :: ds, ρ, i', 0, d, nd, h1, h2, hl => by
    cases h1
    cases h2
    rw [List.nodup_cons] at nd
    show (setAll is ds (ρ.set i (some e)))[i]? = _
    rw [setAll_ne nd.1, List.getElem?_set_self hl]
  | i :: is, e :: ds, ρ, i', j + 1, d, nd, h1, h2, hl => by
    rw [List.nodup_cons] at nd
    show (setAll is ds (ρ.set i (some e)))[i']? = _
    exact setAll_at nd.2 h1 h2 (by rw [List.length_set]; exact hl)
theorem setAllS_at : ∀ {is : List Nat} {ds : List V} {ρ : L2.St} {i j : Nat} {d : V}, is.Nodup → is[j]? = some i → ds[j]? = some d → i < ρ.length → (setAllS is ds ρ)[i]? = some (some d)
  | [], _, _, _, _, _, _, h, _, _ => by simp at h
  | i :: is, [], _, _, _, _, _, _, h, _ => by simp at h
  | i :: is, e :: ds, ρ, i', 0, d, nd, h1, h2, hl => by
    cases h1
    cases h2
    rw [List.nodup_cons] at nd
    show (setAllS is ds (ρ.set i (some e)))[i]? = _
    rw [setAllS_ne nd.1, List.getElem?_set_self hl]
  | i :: is, e :: ds, ρ, i', j + 1, d, nd, h1, h2, hl => by
    rw [List.nodup_cons] at nd
    show (setAllS is ds (ρ.set i (some e)))[i']? = _
    exact setAllS_at nd.2 h1 h2 (by rw [List.length_set]; exact hl)
def putO (O : Nat → Option Addr) (is : List Nat) (Ov : Nat → Option Addr) : Nat → Option Addr := fun i => if i ∈ is then Ov (is.idxOf i) else O i
theorem putO_out {O Ov : Nat → Option Addr} {is : List Nat} {i : Nat} (h : i ∉ is) : putO O is Ov i = O i := by unfold putO; rw [if_neg h]
theorem putO_in {O Ov : Nat → Option Addr} {is : List Nat} {i j : Nat} (nd : is.Nodup) (h : is[j]? = some i) : putO O is Ov i = Ov j := by
  obtain ⟨hj, e⟩ := List.getElem?_eq_some_iff.mp h
  unfold putO
  rw [if_pos (by rw [← e]; exact List.getElem_mem hj), ← e, nd.idxOf_getElem]
theorem EnvO.commit {is : List Nat} {ds : List PyData} {vs : List V} {Ov : Nat → Option Addr} (e : EnvO k T0 H0 P O ρ st σ H) (x : Ext k.loc H H') (r : k.rel st' H') (af : AF (TO T0 O) H H' Ov ds vs) (nd : is.Nodup) (hl : is.length = ds.length) (hb : ∀ i ∈ is, i < ρ.length)
    (hs : ∀ p, k.slot = some p → p.1 ∉ is) (hO : ∀ i ∈ is, O i = none) : EnvO k T0 H0 P (putO O is Ov) (setAll is ds ρ) st' (setAllS is vs σ) H' := by
  have cs : ∀ i, (i ∉ is ∧ putO O is Ov i = O i) ∨ ∃ j d, is[j]? = some i ∧ ds[j]? = some d ∧ putO O is Ov i = Ov j := fun i => by
    by_cases h : i ∈ is
    · obtain ⟨j, hj, q⟩ := List.getElem_of_mem h
      have hj' : is[j]? = some i := by rw [List.getElem?_eq_getElem hj, q]
      exact .inr ⟨j, ds[j]'(by omega), hj', List.getElem?_eq_getElem (by omega), putO_in nd hj'⟩
    · exact .inl ⟨h, putO_out h⟩
  have hT : ∀ a, TO T0 (putO O is Ov) a → TO (TO T0 O) Ov a := fun a t => by
    rcases t with t | ⟨i, t⟩
    · exact .inl (.inl t)
    · rcases cs i with ⟨_, q⟩ | ⟨j, d, _, _, q⟩
      · exact .inl (.inr ⟨i, by rw [← q]; exact t⟩)
      · exact .inr ⟨j, by rw [← q]; exact t⟩
  have hN : ∀ a o, H a = some o → TO T0 (putO O is Ov) a → TO T0 O a := fun a o h t => by
    rcases hT a t with t | ⟨j, t⟩
    · exact t
    · rw [(af.new j a t).1] at h; cases h
  have x' : ∀ a o, ¬ TO T0 O a → H a = some o → H' a = some o := fun a o n h => x a o (fun l => n (e.locT a l)) h
  have mv : Mv (TO T0 O) (TO T0 (putO O is Ov)) H H' := ⟨fun a o n h t => n (hN a o h t), x'⟩
  refine { v0 := fun i d hd ho => ?_, v1 := fun i a ho => ?_, inj := fun i j a hi hj => ?_, new := fun i a hi => ?_, ext := e.ext.trans x, dom0 := e.dom0, loc := e.loc, rel := r, ds := fun p hp => ?_, len := by rw [setAll_len, setAllS_len]; exact e.len, kept := fun a o p => ⟨fun t => (e.kept a o p).1 (hN a o (e.kept a o p).2 t), x' a o (e.kept a o p).1 (e.kept a o p).2⟩ }
  · rcases cs i with ⟨hi, q⟩ | ⟨j, d', hj, hdj, q⟩
    · rw [setAll_ne hi] at hd
      rw [setAllS_ne hi]
      rw [q] at ho
      obtain ⟨v, h1, h2⟩ := e.v0 i d hd ho
      exact ⟨v, h1, Rep.mv mv _ _ h2⟩
    · have hi : i ∈ is := List.mem_of_getElem? hj
      rw [setAll_at nd hj hdj (hb i hi)] at hd
      cases hd
      rw [q] at ho
      obtain ⟨v, h1, h2⟩ := af.v0 j _ hdj ho
      exact ⟨v, setAllS_at nd hj h1 (by rw [← e.len]; exact hb i hi), h2.less hT⟩
  · rcases cs i with ⟨hi, q⟩ | ⟨j, d', hj, hdj, q⟩
    · rw [q] at ho
      rw [setAll_ne hi, setAllS_ne hi]
      obtain ⟨d, h1, h2, h3⟩ := e.v1 i a ho
      exact ⟨d, h1, h2, h3.mv mv fun o h => x a o (e.nloc ho) h⟩
    · have hi : i ∈ is := List.mem_of_getElem? hj
      rw [q] at ho
      obtain ⟨d, h1, h2, h3⟩ := af.v1 j a ho
      exact ⟨d, setAll_at nd hj h1 (hb i hi), setAllS_at nd hj h2 (by rw [← e.len]; exact hb i hi), h3.mv (.less hT) fun o h => h⟩
  · rcases cs i with ⟨_, q⟩ | ⟨i', _, hi', _, q⟩ <;> rcases cs j with ⟨_, q2⟩ | ⟨j', _, hj', _, q2⟩ <;> rw [q] at hi <;> rw [q2] at hj
    · exact e.inj i j a hi hj
    · obtain ⟨d, _, _, z⟩ := e.v1 i a hi
      obtain ⟨o, z, _⟩ := z.there
      rw [(af.new j' a hj).1] at z; cases z
    · obtain ⟨d, _, _, z⟩ := e.v1 j a hj
      obtain ⟨o, z, _⟩ := z.there
      rw [(af.new i' a hi).1] at z; cases z
    · have := af.inj i' j' a hi hj
      subst this
      rw [hi'] at hj'; cases hj'; rfl
  · rcases cs i with ⟨_, q⟩ | ⟨j, _, _, _, q⟩ <;> rw [q] at hi
    · exact e.new i a hi
    · have z := (af.new j a hi).1
      cases w : H0 a with
      | none => rfl
      | some o =>
        by_cases l : k.loc a
        · obtain ⟨xs, w2⟩ := k.there _ _ a e.rel l
          rw [z] at w2; cases w2
        · rw [e.ext a o l w] at z; cases z
  · rw [setAllS_ne (hs p hp)]
    exact e.ds p hp
end
end Mir

set_option Elab.async false
set_option linter.all false
set_option maxRecDepth 100000
set_option maxHeartbeats 4000000
/-! Mir, part J: fresh values, values on the way to their slots. -/
namespace Mir
open PySem PySem.Spec PyProof.Rows L2

def rBltF (X : Cx) (f : B) : List V → Hp → VK → Prop := fun vs H Q => ∃ T ds d, Dom T H ∧ RepL T H ds vs ∧ bltD f ds = .ok d ∧ AnsF T d Q H
theorem bltF_list {X : Cx} : CallR X (.type "list") (rBltF X .list_) := by
  intro pins s σ H vs us Q I r h
  obtain ⟨T, ds, d, dm, hr, hd, a⟩ := h
  obtain ⟨x, rfl, hd⟩ := one_ok hd
  obtain ⟨v, rfl, hx⟩ := hr.one
  obtain ⟨xs, h1, h2⟩ := bind_ok hd
  cases h2
  obtain ⟨p, ws, rfl, n, c, z, rr⟩ := itemsR_rep h1 hx
  rcases c with ⟨rfl, hp⟩ | ⟨rfl, hp⟩
  · exact call_list_of pins s σ H _ us Q I r ⟨p, ws, rfl, .inl (.of hp), a.lst rr z⟩
  · exact call_list_of pins s σ H _ us Q I r ⟨p, ws, rfl, .inr (.of hp), a.lst rr z⟩
theorem bltF_sorted {X : Cx} (hu : X.A.units + 100 < cLine) : CallR X (.builtin "sorted") (rBltF X .sorted) := by
  intro pins s σ H vs us Q I r h
  obtain ⟨T, ds, d, dm, hr, hd, a⟩ := h
  obtain ⟨x, rfl, hd⟩ := one_ok hd
  obtain ⟨v, rfl, hx⟩ := hr.one
  have hd : sortedD x = .ok d := hd
  unfold sortedD at hd
  split at hd
  · rename_i xs _ _
    split at hd
    · rename_i hz
      cases hd
      obtain ⟨al, so⟩ := sortable_iff hz
      obtain ⟨q1, q2, q3⟩ := alikes_iff al
      obtain ⟨p, ws, e, n, hp, z, rr⟩ := hx.list_inv
      subst e
      obtain ⟨u, rfl, ru⟩ := vals1 r
      obtain rfl : u = .ref p := ru
      obtain ⟨its, rv, pl, _⟩ := I.list (.of hp)
      obtain ⟨e1, e2⟩ := each_of I q1 rr rv
      refine W.sorted_data (enc := id) pl.isList e1 e2 (by simpa using q3) (by simpa using so) (by rw [rr.length]; exact z) (fun b hb => ?_) fun out ho ho2 => ?_
      · have := (okD_iff (q1 b hb)).2
        show X.A.units + 2 + b.depth < cLine
        omega
      · obtain ⟨ws', a1, a2⟩ := of_each ho2
        obtain ⟨ep, he'⟩ := PyProof.Rows.sortedAll_at s.heap its out.toArray
        have hlen : ws'.length ≤ sizeLine := by rw [← a2.length, List.length_mergeSort, rr.length]; exact z
        refine ⟨.ref _, upd H (s.heap.objs.size + 1) (.lst ws'), I.laid (t' := s.toks) (fun _ _ => PyProof.Rows.sortedAll_old) (Nat.le_succ _) ⟨hlen, out, ep, a1, he'⟩, rfl, ?_⟩
        exact a.lst a2 hlen _ (I.hok.fresh (Nat.le_succ _))
    · cases hd
  · cases hd
section
variable {S : Type} {X : Cx} {k : SK S} {T T' : Addr → Prop} {σ : L2.St} {H H' : Hp} {ρ : Env} {st : S} {W : WX} {c : E S} {e : Expr} {pos : Pos}
def SF (X : Cx) (k : SK S) (c : E S) (e : Expr) : Prop := ∀ (T : Addr → Prop) (ρ : Env) (st : S) (σ : L2.St) (H : Hp) (Q : VK) (W : WX),
  EnvR X k T (fv c) ρ σ H → Ok X k T st H → Takes X W → PostF X k T σ H (ev c ρ st) Q W → wE X e σ H Q
theorem SF.se (h : SF X k c e) : SE X k c e := fun T ρ st σ H Q W n o t p => h T ρ st σ H Q W n o t p.f
theorem SA.thenF {es : List Expr} {cs : Es S} (h : SA X k cs es) {g : List PyData → M S PyData} {Q : List V → Hp → Prop} {Q' : VK} (n : EnvR X k T (fvs cs) ρ σ H) (o : Ok X k T st H) (t : Takes X W) (p : PostF X k T σ H (bnd (evs cs ρ) g st) Q' W)
    (q : ∀ d st' v H', RepL T H' d v → Ext k.loc H H' → Ok X k T st' H' → PostF X k T σ H' (g d st') Q' W → Q v H') : wA X es σ H Q := by
  refine h T ρ st σ H Q W n o t ?_
  unfold bnd R.bind at p
  unfold PostA
  cases hr : evs cs ρ st with
  | ok a =>
    obtain ⟨d, st'⟩ := a
    rw [hr] at p
    exact fun v H' r e k' => q d st' v H' r e (o.next e k') (PostF.from (o.x0 e k') e p)
  | exc x l => rw [hr] at p; exact p
  | bad => rw [hr] at p; exact p
theorem sf_lst {es : List Expr} {r : Es S} (hr : SA X k r es) : SF X k (.lst r) (.List es pos) := fun T ρ st σ H Q W n o t p => by
  refine (pe_lst pa_w).w ?_
  refine hr.thenF n o t p fun ds st1 vs H1 r1 e1 o1 p1 => ?_
  split at p1
  · rename_i z
    have z' : vs.length ≤ sizeLine := by rw [← r1.length]; exact z
    exact ⟨z', fun q hq => p1 q _ hq (o1.none hq) ⟨vs, upd_same, z', RepL.mv (mvP hq) _ _ r1⟩ (Ext.laid hq) (o1.relNo (Ext.laid hq))⟩
  · exact p1.elim
theorem sf_dict0 : SF X k .dict0 (.Dict [] [] pos) := fun T ρ st σ H Q W n o t p =>
  pe_dnewK.w fun q hq => p q _ hq (o.none hq) (.inl ⟨[], upd_same, by simp [RepK]⟩) (Ext.laid hq) (o.relNo (Ext.laid hq))
theorem bltF_end {f : B} {es : List Expr} {r : Es S} (ha : SA X k r es) {Q : VK} (n : EnvR X k T (fvs r) ρ σ H) (o : Ok X k T st H) (t : Takes X W) (p : PostF X k T σ H (bnd (evs r ρ) (fun xs => lft (bltD f xs)) st) Q W) : wA X es σ H fun vs H1 => rBltF X f vs H1 Q := by
  refine ha.thenF n o t p fun ds st1 vs H1 r1 e1 o1 p1 => ?_
  obtain ⟨d, hd, q⟩ := p1.there o1 fun n l => bltD_nx
  exact ⟨T, ds, d, o1.dom', r1, hd, q⟩
def freshB : B → Bool
  | .list_ => true
  | .sorted => true
  | _ => false
theorem sf_blt {f : B} {nm : String} {ty : Bool} {es : List Expr} {e : Expr} {pn : Pos} {r : Es S} (w : X.A.units + 200 < cLine) (hff : freshB f = true) (hf : bltName f = some (nm, ty)) (hg : Gl X (Str.ofString nm)) (hm : X.mg (Str.ofString nm) = none) (ha : SA X k r (e :: es)) (hk : (e :: es).all okE = true) :
    SF X k (.blt f r) (.Call (.Name (Str.ofString nm) pn) (e :: es) [] pos) := fun T ρ st σ H Q W n o t p => by
  rw [List.all_cons, Bool.and_eq_true] at hk
  have h1 : starEach (e :: es) X.env = (false, eval e X.env) :: starEach es X.env := star_cons hk.1 _ _
  have h2 : (backTo pos (starEach es X.env)).any (·.1) = false := back_ok _ _ hk.2
  have fin := bltF_end (f := f) ha n o t p
  cases f with
  | sorted => cases hf; exact (pe_callB (bltF_sorted (by omega)) hg hm (by decide +kernel) pa_w (by decide) (by decide) h1 h2).w fin
  | list_ => cases hf; exact (pe_callTy bltF_list hg hm (by decide +kernel) pa_w (by decide) (by decide) h1 h2).w fin
  | _ => cases hff

/-! ### several values -/
def PostAF (X : Cx) (k : SK S) (T : Addr → Prop) (σ : L2.St) (H : Hp) (ks : List Bool) (r : R (List PyData × S)) (Q : List V → Hp → Prop) (W : WX) : Prop := match r with
  | .ok (ds, st) => ∀ vs H' O, AF T H H' O ds vs → (∀ j, O j ≠ none ↔ ks[j]? = some true) → Ext k.loc H H' → k.rel st H' → Q vs H'
  | .exc x l => ∀ cls dx H', XcIs X.mg x l cls dx H' → Ext k.loc H H' → W cls dx σ H'
  | .bad => False
def SAF (X : Cx) (k : SK S) (ks : List Bool) (c : Es S) (es : List Expr) : Prop := ∀ (T : Addr → Prop) (ρ : Env) (st : S) (σ : L2.St) (H : Hp) (Q : List V → Hp → Prop) (W : WX),
  EnvR X k T (fvs c) ρ σ H → Ok X k T st H → Takes X W → PostAF X k T σ H ks (evs c ρ st) Q W → wA X es σ H Q
theorem saf_nil : SAF X k [] .nil [] := fun T ρ st σ H Q W n o t p => pa_nil.w (p [] H (fun _ => none) .nil (fun j => by simp) .refl o.rel)
theorem saf_cons {ks : List Bool} {r : Es S} {es : List Expr} (he : SE X k c e) (hr : SAF X k ks r es) (ho : okE e = true) : SAF X k (false :: ks) (.cons c r) (e :: es) := fun T ρ st σ H Q W n o t p => by
  refine (pa_cons pe_w pa_w (star_cons ho _ _)).w ?_
  have p : PostAF X k T σ H (false :: ks) (bnd (ev c ρ) (fun x => bnd (evs r ρ) fun xs => ret (x :: xs)) st) Q W := p
  refine he T ρ st σ H _ W n.left o t ?_
  unfold bnd R.bind at p
  unfold PostE
  cases hr1 : ev c ρ st with
  | exc x l => rw [hr1] at p; exact p
  | bad => rw [hr1] at p; exact p
  | ok a =>
    obtain ⟨d, st1⟩ := a
    rw [hr1] at p
    refine fun v H1 rv e1 rel1 => ?_
    have o1 := o.next e1 rel1
    refine hr T ρ st1 σ H1 _ W (n.right.next (o.extT e1)) o1 t ?_
    unfold PostAF
    simp only at p
    cases hr2 : evs r ρ st1 with
    | exc x l => rw [hr2] at p; exact fun cls dx H' hx e2 => p cls dx H' hx (e1.trans e2)
    | bad => rw [hr2] at p; exact p
    | ok b =>
      obtain ⟨ds, st2⟩ := b
      rw [hr2] at p
      refine fun vs H2 O af hO e2 rel2 => p _ H2 (shO none O) (af.cons rv (fun b u nT hb => e2 b u (fun l => nT (o.loc b l)) hb) (o.x0 e1 rel1)) (fun j => ?_) (e1.trans e2) rel2
      cases j with
      | zero => simp [shO]
      | succ j => simpa [shO] using hO j
theorem saf_consF {ks : List Bool} {r : Es S} {es : List Expr} (he : SF X k c e) (hr : SAF X k ks r es) (ho : okE e = true) : SAF X k (true :: ks) (.cons c r) (e :: es) := fun T ρ st σ H Q W n o t p => by
  refine (pa_cons pe_w pa_w (star_cons ho _ _)).w ?_
  have p : PostAF X k T σ H (true :: ks) (bnd (ev c ρ) (fun x => bnd (evs r ρ) fun xs => ret (x :: xs)) st) Q W := p
  refine he T ρ st σ H _ W n.left o t ?_
  unfold bnd R.bind at p
  unfold PostF
  cases hr1 : ev c ρ st with
  | exc x l => rw [hr1] at p; exact p
  | bad => rw [hr1] at p; exact p
  | ok a =>
    obtain ⟨d, st1⟩ := a
    rw [hr1] at p
    refine fun a H1 ha nT q e1 rel1 => ?_
    have o1 := o.next e1 rel1
    have mv : Mv T (fun b => T b ∨ b = a) H H1 := ⟨fun b u n hb t => t.elim n fun z => (by rw [z, ha] at hb; cases hb), fun b u n hb => e1 b u (fun l => n (o.loc b l)) hb⟩
    have o2 : Ok X k (fun b => T b ∨ b = a) st1 H1 := ⟨fun b t => t.elim (o1.dom b) fun z => (by subst z; exact q.there), fun b l => .inl (o.loc b l), rel1⟩
    refine hr _ ρ st1 σ H1 _ W (n.right.mv mv) o2 t ?_
    unfold PostAF
    simp only at p
    cases hr2 : evs r ρ st1 with
    | exc x l => rw [hr2] at p; exact fun cls dx H' hx e2 => p cls dx H' hx (e1.trans e2)
    | bad => rw [hr2] at p; exact p
    | ok b =>
      obtain ⟨ds, st2⟩ := b
      rw [hr2] at p
      refine fun vs H2 O af hO e2 rel2 => p _ H2 (shO (some a) O) (af.consF ha nT q (fun b u nT hb => e2 b u (fun l => nT (o.loc b l)) hb) (o.x0 e1 rel1)) (fun j => ?_) (e1.trans e2) rel2
      cases j with
      | zero => simp [shO]
      | succ j => simpa [shO] using hO j
theorem AF.less {T T' : Addr → Prop} {H0 H : Hp} {O : Nat → Option Addr} {ds : List PyData} {vs : List V} (r : AF T H0 H O ds vs) (h : ∀ a, T' a → T a) : AF T' H0 H O ds vs := by
  have h' : ∀ a, TO T' O a → TO T O a := fun a t => t.imp (h a) id
  refine ⟨r.len, fun j d hd ho => ?_, fun j a ho => ?_, r.inj, fun j a ho => ⟨(r.new j a ho).1, fun t => (r.new j a ho).2 (h a t)⟩⟩
  · obtain ⟨v, a, b⟩ := r.v0 j d hd ho
    exact ⟨v, a, b.less h'⟩
  · obtain ⟨d, a, b, c⟩ := r.v1 j a ho
    exact ⟨d, a, b, c.mv (.less h') fun _ h => h⟩
end
/-- the slots let go -/
def dropL (L : List Nat) (O : Nat → Option Addr) : Nat → Option Addr := fun j => if j ∈ L then none else O j
theorem dropL_or {L : List Nat} {O : Nat → Option Addr} (i : Nat) : dropL L O i = O i ∨ dropL L O i = none := by
  unfold dropL
  by_cases h : i ∈ L
  · rw [if_pos h]; exact .inr rfl
  · rw [if_neg h]; exact .inl rfl
theorem dropL_in {L : List Nat} {O : Nat → Option Addr} : ∀ i ∈ L, dropL L O i = none := fun i h => by unfold dropL; rw [if_pos h]
theorem dropL_out {L : List Nat} {O : Nat → Option Addr} {i : Nat} (h : i ∉ L) : dropL L O i = O i := by unfold dropL; rw [if_neg h]
/-- who owns behind values that were put -/
def lvKs : List Nat → List Bool → List Nat
  | i :: is, true :: ks => i :: lvKs is ks
  | _ :: is, false :: ks => lvKs is ks
  | _, _ => []
def lvPut (im : Bool) (L is : List Nat) (ks : List Bool) (lv : List Nat) : List Nat := lvKs is ks ++ lv.filter fun j => !is.contains j && (im || !L.contains j)
theorem lvKs_in : ∀ {is : List Nat} {ks : List Bool} {i : Nat}, i ∈ lvKs is ks → ∃ j : Nat, is[j]? = some i ∧ ks[j]? = some true
  | [], _, _, h => by simp [lvKs] at h
  | _ :: _, [], _, h => by simp [lvKs] at h
  | i :: is, true :: ks, j, h => by
    rw [lvKs, List.mem_cons] at h
    rcases h with rfl | h
    · exact ⟨0, rfl, rfl⟩
    · obtain ⟨n, a, b⟩ := lvKs_in h
      exact ⟨n + 1, a, b⟩
  | i :: is, false :: ks, j, h => by
    rw [lvKs] at h
    obtain ⟨n, a, b⟩ := lvKs_in h
    exact ⟨n + 1, a, b⟩
section
variable {S : Type} {k : SK S} {T0 : Addr → Prop} {H0 H H' : Hp} {P : Addr → HO → Prop} {O : Nat → Option Addr} {ρ : Env} {st st' : S} {σ : L2.St}
/-- values are put into their slots: who owns then -/
theorem EnvO.put {L is : List Nat} {ks : List Bool} {im : Bool} {ds : List PyData} {vs : List V} {Ov : Nat → Option Addr} {lv : List Nat} (e : EnvO k T0 H0 P O ρ st σ H) (hlv : ∀ i ∈ lv, O i ≠ none) (x : Ext k.loc H H') (r : k.rel st' H')
    (af : AF (TO T0 (dropL L O)) H H' Ov ds vs) (hO : ∀ j, Ov j ≠ none ↔ ks[j]? = some true) (him : im = false ∨ immKs ks ds = true) (nd : is.Nodup) (hl : is.length = ds.length) (hb : ∀ i ∈ is, i < ρ.length) (hs : ∀ p, k.slot = some p → p.1 ∉ is) :
    ∃ O', (∀ i ∈ lvPut im L is ks lv, O' i ≠ none) ∧ EnvO k T0 H0 P O' (setAll is ds ρ) st' (setAllS is vs σ) H' := by
  let O3 : Nat → Option Addr := if im = true then dropL is O else dropL is (dropL L O)
  have h3 : ∀ i, O3 i = O i ∨ O3 i = none := fun i => by
    show (if im = true then dropL is O else dropL is (dropL L O)) i = _ ∨ _
    cases im with
    | true => exact dropL_or i
    | false =>
      show dropL is (dropL L O) i = O i ∨ dropL is (dropL L O) i = none
      rcases dropL_or (L := is) (O := dropL L O) i with z | z
      · rw [z]; exact dropL_or i
      · exact .inr z
  have e3 := e.drop O3 h3
  have n3 : ∀ i ∈ is, O3 i = none := fun i hi => by
    show (if im = true then dropL is O else dropL is (dropL L O)) i = none
    cases im <;> exact dropL_in i hi
  have af3 : AF (TO T0 O3) H H' Ov ds vs := by
    rcases him with rfl | him
    · refine af.less (TO.mono fun i a h => ?_)
      have h : dropL is (dropL L O) i = some a := h
      rcases dropL_or (L := is) (O := dropL L O) i with z | z
      · rw [← z]; exact h
      · rw [z] at h; cases h
    · refine af.imm (e3.next x r).notup him hO fun a t => ?_
      rcases t with t | ⟨i, t⟩
      · exact .inl (.inl t)
      · right
        rcases h3 i with z | z
        · rw [z] at t
          obtain ⟨d, _, _, q⟩ := e.v1 i a t
          obtain ⟨o, q, _⟩ := q.there
          rw [q]; exact fun z => nomatch z
        · rw [z] at t; cases t
  refine ⟨putO O3 is Ov, fun i hi => ?_, e3.commit x r af3 nd hl hb hs n3⟩
  rw [lvPut, List.mem_append] at hi
  rcases hi with hi | hi
  · obtain ⟨j, h1, h2⟩ := lvKs_in hi
    rw [putO_in nd h1]
    exact (hO j).mpr h2
  · simp only [List.mem_filter, Bool.and_eq_true, Bool.or_eq_true, Bool.not_eq_true', List.contains_iff_mem] at hi
    obtain ⟨h1, h2, h4⟩ := hi
    have hi : i ∉ is := fun z => by
      rw [List.contains_iff_mem.mpr z] at h2; cases h2
    rw [putO_out hi]
    show (if im = true then dropL is O else dropL is (dropL L O)) i ≠ none
    cases im with
    | true => rw [if_pos rfl, dropL_out hi]; exact hlv i h1
    | false =>
      have hi2 : i ∉ L := fun z => by
        rcases h4 with h4 | h4
        · cases h4
        · rw [List.contains_iff_mem.mpr z] at h4; cases h4
      rw [if_neg (by decide), dropL_out hi, dropL_out hi2]; exact hlv i h1
end
end Mir

set_option Elab.async false
set_option linter.all false
set_option maxRecDepth 100000
set_option maxHeartbeats 4000000
/-! Mir, part K: statements. -/
namespace Mir
open PySem PySem.Spec PyProof.Rows L2

section
variable {X : Cx} {pins : List (Addr × Obj)} {σ : L2.St} {H : Hp} {s : Shared} {a : Addr}
theorem dK_dT (I : Inv X pins σ H s) (h : H a = some (.dK [])) : Inv X pins σ (upd H a (.dT [])) s := by
  have q := I.hok a _ h
  obtain ⟨z, hd, vs, rel, dd⟩ := q
  cases rel
  obtain ⟨o, es, ep, h1, h2, h3, _, h4, _⟩ := dd
  refine I.write (x := a) (e := a) (by rw [h]; trivial) (.inl rfl) (fun b u _ q => q) ⟨_, h1⟩ ⟨Nat.zero_le _, hd, [], .nil, o, es, ep, h1, h2, h3, ?_, by simp⟩
  generalize es.toList = l at h4
  cases h4
  rfl
theorem dT_dK (I : Inv X pins σ H s) (h : H a = some (.dT [])) : Inv X pins σ (upd H a (.dK [])) s := by
  obtain ⟨hd, dd⟩ := dT_nil_K I (.inl h)
  have dd' := dd
  obtain ⟨o, es, ep, h1, _⟩ := dd'
  exact I.write (x := a) (e := a) (by rw [h]; trivial) (.inl rfl) (fun b u _ q => q) ⟨_, h1⟩ ⟨Nat.zero_le _, hd, [], .nil, dd⟩
/-- a name whose dict, an empty one, is taken as one of the other kind -/
def tVarR (i : Nat) : TE := fun σ H Q => ∃ v, σ[i]? = some (some v) ∧ (Q v H ∨ ∃ a, v = .ref a ∧ ((H a = some (.dK []) ∧ Q v (upd H a (.dT []))) ∨ (H a = some (.dT []) ∧ Q v (upd H a (.dK [])))))
theorem pe_varR {i : Nat} {x : Str} {pos : Pos} (hN : X.N[i]? = some x) (hv : Vis X.env.scope x) (hd : (x == ("__debug__" : Str)) = false) (hcd : (x == ("__classdict__" : Str)) = false) : PE X (.Name x pos) (tVarR i) := ⟨fun pins s σ H Q I h => by
  obtain ⟨v, e, h⟩ := h
  rcases h with h | ⟨a, rfl, ⟨ha, h⟩ | ⟨ha, h⟩⟩
  · exact (pe_var hN hv hd hcd).run pins s σ H Q I ⟨v, e, h⟩
  · exact (pe_var hN hv hd hcd).run pins s σ _ Q (dK_dT I ha) ⟨_, e, h⟩
  · exact (pe_var hN hv hd hcd).run pins s σ _ Q (dT_dK I ha) ⟨_, e, h⟩⟩
end

/-! ### readings -/
def wS (X : Cx) (st : Stmt) : TS := fun D σ H => ∀ (pins : List (Addr × Obj)) (s : Shared), Inv X pins σ H s → wpAny (model X.prog X.w) X.A (exec st X.env) (SP X pins D) X.xe s
def wSs (X : Cx) (st : List Stmt) : TS := fun D σ H => ∀ (pins : List (Addr × Obj)) (s : Shared), Inv X pins σ H s → wpAny (model X.prog X.w) X.A (execs st X.env) (SP X pins D) X.xe s
theorem ps_w {X : Cx} {st : Stmt} : PS X st (wS X st) := ⟨fun pins s σ H D I h => h pins s I⟩
theorem pss_w {X : Cx} {st : List Stmt} : PSs X st (wSs X st) := ⟨fun pins s σ H D I h => h pins s I⟩
theorem _root_.L2.PS.w {X : Cx} {st : Stmt} {t : TS} {D : Ends} {σ : L2.St} {H : Hp} (h : PS X st t) (q : t D σ H) : wS X st D σ H := fun pins s I => h.run pins s σ H D I q
theorem _root_.L2.PSs.w {X : Cx} {st : List Stmt} {t : TS} {D : Ends} {σ : L2.St} {H : Hp} (h : PSs X st t) (q : t D σ H) : wSs X st D σ H := fun pins s I => h.run pins s σ H D I q
theorem wS.at {X : Cx} {st : Stmt} {D : Ends} {σ : L2.St} {H : Hp} (h : ∀ pins s, Inv X pins σ H s → wS X st D σ H) : wS X st D σ H := fun pins s I => h pins s I pins s I

section
variable {S : Type}
def PostS (X : Cx) (k : SK S) (T0 : Addr → Prop) (H0 : Hp) (P : Addr → HO → Prop) (lv : Option (List Nat)) (ll : List Nat) (r : R (Fl × S)) (D : Ends) (W : WX) : Prop := match r with
  | .ok (.nx ρ, st) => ∀ l, lv = some l → ∀ σ H O, (∀ i ∈ l, O i ≠ none) → EnvO k T0 H0 P O ρ st σ H → D.nx σ H
  | .ok (.brk ρ, st) => ∀ σ H O, (∀ i ∈ ll, O i ≠ none) → EnvO k T0 H0 P O ρ st σ H → D.bk σ H
  | .ok (.cnt ρ, st) => ∀ σ H O, (∀ i ∈ ll, O i ≠ none) → EnvO k T0 H0 P O ρ st σ H → D.ct σ H
  | .ok (.ret d, st) => ∀ v H, Rep T0 H d v → Ext k.loc H0 H → k.rel st H → D.rt v H
  | .exc x l => ∀ cls dx σ H, XcIs X.mg x l cls dx H → Ext k.loc H0 H → W cls dx σ H
  | .bad => False
/-- c is s: who owns ahead (lv), at the loop's ends (ll), behind (lv') -/
def SS (X : Cx) (k : SK S) (lv ll : List Nat) (c : St S) (s : Stmt) (lv' : Option (List Nat)) : Prop := ∀ (T0 : Addr → Prop) (H0 : Hp) (P : Addr → HO → Prop) (O : Nat → Option Addr) (ρ : Env) (st : S) (σ : L2.St) (H : Hp) (D : Ends) (W : WX),
  (∀ i ∈ lv, O i ≠ none) → EnvO k T0 H0 P O ρ st σ H → Takes X W → PostS X k T0 H0 P lv' ll (run c ρ st) D W → wS X s D σ H
def SSs (X : Cx) (k : SK S) (lv ll : List Nat) (c : Sts S) (s : List Stmt) (lv' : Option (List Nat)) : Prop := ∀ (T0 : Addr → Prop) (H0 : Hp) (P : Addr → HO → Prop) (O : Nat → Option Addr) (ρ : Env) (st : S) (σ : L2.St) (H : Hp) (D : Ends) (W : WX),
  (∀ i ∈ lv, O i ≠ none) → EnvO k T0 H0 P O ρ st σ H → Takes X W → PostS X k T0 H0 P lv' ll (runs c ρ st) D W → wSs X s D σ H
variable {X : Cx} {k : SK S} {lv ll : List Nat} {pos : Pos} {e : Expr} {c : E S}
theorem PostS.weak {T0 : Addr → Prop} {H0 : Hp} {P : Addr → HO → Prop} {lv lv' : Option (List Nat)} {r : R (Fl × S)} {D : Ends} {W : WX} (h : PostS X k T0 H0 P lv ll r D W) (z : ∀ l, lv' = some l → ∃ l', lv = some l' ∧ ∀ i ∈ l', i ∈ l) : PostS X k T0 H0 P lv' ll r D W := by
  unfold PostS at h ⊢
  match r, h with
  | .ok (.nx ρ, st), h => exact fun l hl σ H O hO en => let ⟨l', a, b⟩ := z l hl; h l' a σ H O (fun i hi => hO i (b i hi)) en
  | .ok (.brk ρ, st), h => exact h
  | .ok (.cnt ρ, st), h => exact h
  | .ok (.ret d, st), h => exact h
  | .exc x l, h => exact h
  | .bad, h => exact h
theorem EnvO.weakP {T0 : Addr → Prop} {H0 : Hp} {P P' : Addr → HO → Prop} {O : Nat → Option Addr} {ρ : Env} {st : S} {σ : L2.St} {H : Hp} (en : EnvO k T0 H0 P O ρ st σ H) (h : ∀ a o, P' a o → P a o) : EnvO k T0 H0 P' O ρ st σ H := { en with kept := fun a o p => en.kept a o (h a o p) }

/-! ### values into slots -/
def SVs (X : Cx) (k : SK S) (L is : List Nat) (ks : List Bool) (m : Env → M S (List PyData)) (s : Stmt) : Prop := ∀ (T : Addr → Prop) (ρ : Env) (st : S) (σ : L2.St) (H : Hp) (D : Ends) (W : WX),
  EnvR X k T L ρ σ H → Ok X k T st H → Takes X W → PostAF X k T σ H ks (m ρ st) (fun vs H' => vs.length = is.length → D.nx (setAllS is vs σ) H') W → wS X s D σ H
theorem ss_put {L is : List Nat} {ks : List Bool} {im : Bool} {m : Env → M S (List PyData)} {s : Stmt} {cs : St S} (hv : SVs X k L is ks m s) (nd : is.Nodup) (hb : ∀ i ∈ is, i < X.N.length) (hs : ∀ p, k.slot = some p → p.1 ∉ is)
    (hrun : ∀ ρ st, run cs ρ st = bnd (m ρ) (fun ds => if ds.length = is.length ∧ (im = false ∨ immKs ks ds = true) then ret (.nx (setAll is ds ρ)) else lft .bad) st) : SS X k lv ll cs s (some (lvPut im L is ks lv)) := fun T0 H0 P O ρ st σ H D W hO en t p => wS.at fun pins sh I => by
  have e1 := en.drop (dropL L O) dropL_or
  refine hv _ ρ st σ H D W (e1.envR dropL_in) e1.ok t ?_
  rw [hrun] at p
  unfold bnd R.bind at p
  unfold PostAF
  cases hr : m ρ st with
  | exc x l => rw [hr] at p; exact fun cls dx H' hx x => p cls dx σ H' hx (en.ext.trans x)
  | bad => rw [hr] at p; exact p
  | ok a =>
    obtain ⟨ds, st1⟩ := a
    rw [hr] at p
    refine fun vs H' Ov af hOv x rel hlen => ?_
    simp only at p
    split at p
    · rename_i h
      obtain ⟨O', hO', en'⟩ := en.put (is := is) hO x rel af hOv h.2 nd h.1.symm (fun i hi => by rw [en.len, I.len]; exact hb i hi) hs
      exact p _ rfl _ _ O' hO' en'
    · exact p.elim
theorem sv_set {i : Nat} {x : Str} {p' : Pos} (he : SE X k c e) (nd : X.N.Nodup) (h1 : X.N[i]? = some x) (h2 : Loc X.env.scope x) (h3 : X.fn x = true) (hs : swapsWith e (some (.Name x p')) pos.line X.env = pure false) :
    SVs X k (fv c) [i] [false] (fun ρ => bnd (ev c ρ) fun d => ret [d]) (.Assign [.Name x p'] e pos) := fun T ρ st σ H D W n o t p => by
  refine (ps_set nd h1 h2 pe_w hs (.inl h3)).w ?_
  refine he T ρ st σ H _ W n o t ?_
  unfold bnd R.bind at p
  dsimp only at p
  unfold PostE
  cases hr : ev c ρ st with
  | exc x l => rw [hr] at p; exact p
  | bad => rw [hr] at p; exact p
  | ok a =>
    obtain ⟨d, st1⟩ := a
    rw [hr] at p
    exact fun v H' rv x rel => p [v] H' (fun _ => none) (.plain (.cons rv .nil)) (fun j => by cases j <;> simp) x rel rfl
theorem AF.one {T : Addr → Prop} {H0 H : Hp} {d : PyData} {a : Addr} (h0 : H0 a = none) (nT : ¬ T a) (q : Own1 (fun b => T b ∨ b = a) H d a) : AF T H0 H (shO (some a) fun _ => none) [d] [.ref a] := by
  refine ⟨rfl, fun j e hj ho => ?_, fun j b ho => ?_, fun i j b hi hj => ?_, fun j b ho => ?_⟩
  · cases j with
    | zero => cases ho
    | succ j => simp at hj
  · cases j with
    | zero =>
      cases ho
      refine ⟨d, rfl, rfl, ?_⟩
      rw [TO.sh]
      exact q.mv (.less fun b t => t.elim id fun ⟨_, z⟩ => nomatch z) fun _ h => h
    | succ j => cases ho
  · cases i with
    | zero => cases j with
      | zero => rfl
      | succ j => cases hj
    | succ i => cases hi
  · cases j with
    | zero => cases ho; exact ⟨h0, nT⟩
    | succ j => cases ho
theorem shO_one {a : Addr} (j : Nat) : shO (some a) (fun _ => none) j ≠ none ↔ [true][j]? = some true := by
  cases j with
  | zero => simp [shO]
  | succ j => simp [shO]
/-- one fresh value -/
theorem fresh_one {m : M S PyData} {T : Addr → Prop} {st : S} {σ : L2.St} {H : Hp} {Q : List V → Hp → Prop} {W : WX} (p : PostAF X k T σ H [true] (bnd m (fun d => ret [d]) st) Q W) : PostF X k T σ H (m st) (fun v H' => Q [v] H') W := by
  unfold bnd R.bind at p
  dsimp only at p
  unfold PostF
  cases hr : m st with
  | exc x l => rw [hr] at p; exact p
  | bad => rw [hr] at p; exact p
  | ok a =>
    obtain ⟨d, st1⟩ := a
    rw [hr] at p
    exact fun a H' ha nT q x rel => p [.ref a] H' _ (.one ha nT q) shO_one x rel
/-- what is fresh may stand as any other -/
theorem PostAF.plainF {m : M S PyData} {T : Addr → Prop} {st : S} {σ : L2.St} {H : Hp} {Q : List V → Hp → Prop} {W : WX} (p : PostAF X k T σ H [false] (bnd m (fun d => ret [d]) st) Q W) : PostE X k T σ H (m st) (fun v H' => Q [v] H') W := by
  unfold bnd R.bind at p
  dsimp only at p
  unfold PostE
  cases hr : m st with
  | exc x l => rw [hr] at p; exact p
  | bad => rw [hr] at p; exact p
  | ok a =>
    obtain ⟨d, st1⟩ := a
    rw [hr] at p
    exact fun v H' rv x rel => p [v] H' (fun _ => none) (.plain (.cons rv .nil)) (fun j => by cases j <;> simp) x rel
theorem one_post {own : Bool} {m : M S PyData} {T : Addr → Prop} {st : S} {σ : L2.St} {H : Hp} {Q : List V → Hp → Prop} {W : WX} (p : PostAF X k T σ H [own] (bnd m (fun d => ret [d]) st) Q W) : PostF X k T σ H (m st) (fun v H' => Q [v] H') W := by
  cases own with
  | true => exact fresh_one p
  | false => exact p.plainF.f
theorem sv_setF {i : Nat} {x : Str} {p' : Pos} {own : Bool} (he : SF X k c e) (nd : X.N.Nodup) (h1 : X.N[i]? = some x) (h2 : Loc X.env.scope x) (h3 : X.fn x = true) (hs : swapsWith e (some (.Name x p')) pos.line X.env = pure false) :
    SVs X k (fv c) [i] [own] (fun ρ => bnd (ev c ρ) fun d => ret [d]) (.Assign [.Name x p'] e pos) := fun T ρ st σ H D W n o t p => by
  refine (ps_set nd h1 h2 pe_w hs (.inl h3)).w ?_
  refine he T ρ st σ H _ W n o t ?_
  have q := one_post p
  unfold PostF at q ⊢
  match hr : ev c ρ st, q with
  | .ok (d, st'), q => exact fun a H' h1 h2 h3 h4 h5 => q a H' h1 h2 h3 h4 h5 rfl
  | .exc x l, q => exact q
  | .bad, q => exact q
theorem sv_lc {elt c : E S} {tgt : Tg} {it : Mir.It S} {own : List (Str × Nat)} {eelt etg eiter : Expr} {ifs : List Expr} {scope : Scope} {i : Nat} {y : Str} {py spos : Pos} {ow : Bool} (nd : X.N.Nodup) (hc : X.calm = true) (hi : SI X k etg it eiter) (ok : BlkOk X.N X.env.scope scope own) (hf : okE eiter = true)
    (hown : ∀ i ∈ tgs tgt, i ∈ own.map (·.2)) (hds : ∀ p, k.slot = some p → p.1 ∉ own.map (·.2))
    (ht : BlkE X scope fun X' => TgOk X' tgt etg) (hcc : BlkE X scope fun X' => (ifs = [] ∧ c = .bl true) ∨ ∃ e, ifs = [e] ∧ ST X' k c e) (he : BlkE X scope fun X' => SE X' k elt eelt)
    (hy : X.N[i]? = some y) (hyl : X.env.scope.names.lookup y = some .local) (hsw : swapsWith (.ListComp eelt [⟨etg, eiter, ifs, 0⟩] scope pos) (some (.Name y py)) spos.line X.env = pure true) :
    SVs X k (fv (.lc elt tgt it c own : E S)) [i] [ow] (fun ρ => bnd (ev (.lc elt tgt it c own) ρ) fun d => ret [d]) (.Assign [.Name y py] (.ListComp eelt [⟨etg, eiter, ifs, 0⟩] scope pos) spos) := fun T ρ st σ H D W n o t p => by
  refine (ps_setLc (g := lcG X scope etg) (tt := lcT X scope ifs) (te := lcE X scope eelt) hc nd hy hyl hsw pi_w ok lcG_ok lcT_ok lcE_ok (fold_ok hf _)).w ?_
  refine lc_read nd hc hi ok hf hown hds ht hcc he n o t ?_
  have q := one_post p
  unfold PostF at q ⊢
  match hr : ev (.lc elt tgt it c own) ρ st, q with
  | .ok (d, st'), q => exact fun a H' h1 h2 h3 h4 h5 => q a H' h1 h2 h3 h4 h5 rfl
  | .exc x l, q => exact q
  | .bad, q => exact q
/-- a, b, .. = a value -/
def tupR (n : Nat) : PyData → R (List PyData)
  | .tuple ds => if ds.length = n then .ok ds else .bad
  | _ => .bad
theorem sv_asg {is : List Nat} {es : List Expr} {j : Nat} {pt : Pos} (he : SE X k c e) (nd : X.N.Nodup) (hc : X.calm = true) (h : TgNs X is es) (hs : swapsWithSole [.Tuple es j pt] e pos.line X.env = pure false) (hw : swappedStores [.Tuple es j pt] e X.env = pure none) :
    SVs X k (fv c) is [] (fun ρ => bnd (ev c ρ) fun d => lft (tupR is.length d)) (.Assign [.Tuple es j pt] e pos) := fun T ρ st σ H D W n o t p => by
  refine (ps_asg pe_w pg_w hs hw).w ?_
  refine he T ρ st σ H _ W n o t ?_
  unfold bnd R.bind at p
  dsimp only at p
  unfold PostE
  cases hr : ev c ρ st with
  | exc x l => rw [hr] at p; exact p
  | bad => rw [hr] at p; exact p
  | ok a =>
    obtain ⟨d, st1⟩ := a
    rw [hr] at p
    refine fun v H' rv x rel => ?_
    have p : PostAF X k T σ H [] (lft (tupR is.length d) st1) (fun vs H' => vs.length = is.length → D.nx (setAllS is vs σ) H') W := p
    unfold tupR at p
    split at p
    · split at p
      · rename_i ds hl
        obtain ⟨p1, p2, p3⟩ := TgNs.pgs nd h
        obtain ⟨a, xs, rfl, _, hp, z, rr⟩ := rv.tuple_inv
        have hl' : is.length = xs.length := by rw [← rr.length]; exact hl.symm
        exact (pg_tup hc p1 p2 p3).w ⟨a, xs, rfl, .of hp, hl'.symm, gNames_ok hl' (p xs H' (fun _ => none) (.plain rr) (fun j => by simp) x rel hl'.symm)⟩
      · exact p.elim
    · exact p.elim
/-- a, b = x, y stored from the right -/
theorem sv_par2 {ks : List Bool} {cs : Es S} {i j : Nat} {x y : Str} {a b : Expr} {px py pt : Pos} {kt k2 : Nat} {pt2 : Pos} (ha : SAF X k ks cs [a, b]) (hn : esLen cs = 2) (nd : X.N.Nodup) (hc : X.calm = true) (hi : X.N[i]? = some x) (hj : X.N[j]? = some y) (hij : i ≠ j)
    (hx : X.env.scope.names.lookup x = some .local) (hy : X.env.scope.names.lookup y = some .local) (hw : swappedStores [.Tuple [.Name x px, .Name y py] kt pt] (.Tuple [a, b] k2 pt2) X.env = pure (some [x, y])) :
    SVs X k (fvs cs) [i, j] ks (fun ρ => evs cs ρ) (.Assign [.Tuple [.Name x px, .Name y py] kt pt] (.Tuple [a, b] k2 pt2) pos) := fun T ρ st σ H D W n o t p => by
  refine (ps_par hc nd hi hj hij hx hy pa_w hw).w ?_
  refine ha T ρ st σ H _ W n o t ?_
  unfold PostAF at p ⊢
  dsimp only at p
  cases hr : evs cs ρ st with
  | exc x l => rw [hr] at p; exact p
  | bad => rw [hr] at p; exact p
  | ok q =>
    obtain ⟨d, st'⟩ := q
    rw [hr] at p
    refine fun vs H' O af hO x rel => ?_
    have hl : vs.length = 2 := by rw [← af.len, evs_len hr, hn]
    have q := p vs H' O af hO x rel hl
    match vs, hl, q with
    | [v, w], _, q => exact ⟨v, w, rfl, q⟩
theorem sv_par3 {ks : List Bool} {cs : Es S} {i j l : Nat} {x y z : Str} {a b c : Expr} {px py pz pt : Pos} {kt k2 : Nat} {pt2 : Pos} (ha : SAF X k ks cs [a, b, c]) (hn : esLen cs = 3) (nd : X.N.Nodup) (hc : X.calm = true) (hi : X.N[i]? = some x) (hj : X.N[j]? = some y) (hk : X.N[l]? = some z) (hij : i ≠ j) (hil : i ≠ l) (hjl : j ≠ l)
    (hx : X.env.scope.names.lookup x = some .local) (hy : X.env.scope.names.lookup y = some .local) (hz : X.env.scope.names.lookup z = some .local) (hw : swappedStores [.Tuple [.Name x px, .Name y py, .Name z pz] kt pt] (.Tuple [a, b, c] k2 pt2) X.env = pure (some [x, y, z])) :
    SVs X k (fvs cs) [i, j, l] ks (fun ρ => evs cs ρ) (.Assign [.Tuple [.Name x px, .Name y py, .Name z pz] kt pt] (.Tuple [a, b, c] k2 pt2) pos) := fun T ρ st σ H D W n o t p => by
  refine (ps_par3 hc nd hi hj hk hij hil hjl hx hy hz pa_w hw).w ?_
  refine ha T ρ st σ H _ W n o t ?_
  unfold PostAF at p ⊢
  dsimp only at p
  cases hr : evs cs ρ st with
  | exc x l => rw [hr] at p; exact p
  | bad => rw [hr] at p; exact p
  | ok q =>
    obtain ⟨d, st'⟩ := q
    rw [hr] at p
    refine fun vs H' O af hO x rel => ?_
    have hl : vs.length = 3 := by rw [← af.len, evs_len hr, hn]
    have q := p vs H' O af hO x rel hl
    match vs, hl, q with
    | [u, v, w], _, q => exact ⟨u, v, w, rfl, q⟩
theorem AF.next {T : Addr → Prop} {H0 H H' : Hp} {O : Nat → Option Addr} {ds : List PyData} {vs : List V} (r : AF T H0 H O ds vs) (x : Ext NoT H H') : AF T H0 H' O ds vs :=
  ⟨r.len, fun j d hd ho => let ⟨v, a, b⟩ := r.v0 j d hd ho; ⟨v, a, b.ext (.of_no x)⟩, fun j a ho => let ⟨d, h1, h2, h3⟩ := r.v1 j a ho; ⟨d, h1, h2, h3.mv (.of_ext (.of_no x)) fun o h => x a o id h⟩, r.inj, r.new⟩
/-- .. made to a tuple first -/
theorem sv_parT {ks : List Bool} {cs : Es S} {is : List Nat} {ts es : List Expr} {pt : Pos} {kt k2 : Nat} {pt2 : Pos} (ha : SAF X k ks cs es) (hn : esLen cs = is.length) (hz : is.length ≤ sizeLine) (nd : X.N.Nodup) (hc : X.calm = true) (h : TgNs X is ts)
    (hw : swappedStores [.Tuple ts kt pt] (.Tuple es k2 pt2) X.env = pure none) :
    SVs X k (fvs cs) is ks (fun ρ => evs cs ρ) (.Assign [.Tuple ts kt pt] (.Tuple es k2 pt2) pos) := fun T ρ st σ H D W n o t p => by
  refine (ps_asg (pe_tup pa_w) pg_w rfl hw).w ?_
  refine ha T ρ st σ H _ W n o t ?_
  unfold PostAF at p ⊢
  dsimp only at p
  cases hr : evs cs ρ st with
  | exc x l => rw [hr] at p; exact p
  | bad => rw [hr] at p; exact p
  | ok q =>
    obtain ⟨d, st'⟩ := q
    rw [hr] at p
    refine fun vs H' O af hO x rel => ?_
    have hl : vs.length = is.length := by rw [← af.len, evs_len hr, hn]
    refine ⟨by rw [hl]; exact hz, fun q hq => ?_⟩
    obtain ⟨p1, p2, p3⟩ := TgNs.pgs nd h
    have o1 := o.next x rel
    refine (pg_tup hc p1 p2 p3).w ⟨q, vs, rfl, .of upd_same, hl, gNames_ok hl.symm (p vs _ O (af.next (Ext.laid hq)) hO (x.trans (Ext.laid hq)) (o1.relNo (Ext.laid hq)) hl)⟩
end
/-- how a tuple's stores go -/
def starB : Expr → Bool
  | .Starred .. => true
  | _ => false
def swpN (sp : Scope) (ts : List Expr) : List Str := ts.filterMap fun
      | .Name id pos => if sp.names.lookup id == some .local && pos.line == (ts.head?.map (·.pos.line)).getD 0 then some id else none
      | _ => none
def swp (sp : Scope) (ts vs : List Expr) : Option (Option (List Str)) :=
  bif !(ts.length == 2 || ts.length == 3) || vs.length != ts.length || (if sp.kind.isAnnotationScope then .function else sp.kind) != .function then some none
  else bif vs.any starB then some none
  else bif (swpN sp ts).length != ts.length || (swpN sp ts).eraseDups.length != (swpN sp ts).length then some none
  else bif vs.all (foldedForSure 8) then some none
  else bif vs.all (constantsAlone 8) then none
  else some (some (swpN sp ts))
theorem swp_ok {env : PySem.Env} {sp : Scope} {ts vs : List Expr} {r : Option (List Str)} {a c : Nat} {b d : Pos} (hs : env.scope = sp) (h : swp sp ts vs = some r) : swappedStores [.Tuple ts a b] (.Tuple vs c d) env = pure r := by
  subst hs
  have e : swappedStores [.Tuple ts a b] (.Tuple vs c d) env = (if (!(ts.length == 2 || ts.length == 3) || vs.length != ts.length || (if env.scope.kind.isAnnotationScope then .function else env.scope.kind) != .function) = true then pure none
    else if vs.any starB = true then pure none
    else if ((swpN env.scope ts).length != ts.length || (swpN env.scope ts).eraseDups.length != (swpN env.scope ts).length) = true then pure none
    else if vs.all (foldedForSure 8) = true then pure none
    else if vs.all (constantsAlone 8) = true then (do unsupported "assign.tuple-of-constant-expressions:order-of-the-stores"; return some (swpN env.scope ts))
    else pure (some (swpN env.scope ts))) := rfl
  rw [e]
  unfold swp at h
  revert h
  cases (!(ts.length == 2 || ts.length == 3) || vs.length != ts.length || (if env.scope.kind.isAnnotationScope then .function else env.scope.kind) != .function) with
  | true => intro h; cases h; rfl
  | false =>
    cases vs.any starB with
    | true => intro h; cases h; rfl
    | false =>
      cases ((swpN env.scope ts).length != ts.length || (swpN env.scope ts).eraseDups.length != (swpN env.scope ts).length) with
      | true => intro h; cases h; rfl
      | false =>
        cases vs.all (foldedForSure 8) with
        | true => intro h; cases h; rfl
        | false =>
          cases vs.all (constantsAlone 8) with
          | true => intro h; cases h
          | false => intro h; cases h; rfl
/-- is the comprehension stored before it ends? -/
def swB (sp : Scope) (e : Expr) (x : Str) (px : Pos) : Bool := match e with
  | .ListComp _ _ s p | .SetComp _ _ s p => (if sp.kind.isAnnotationScope then .function else sp.kind) == .function && sp.names.lookup x == some .local && px.line == p.line && !(s.names.any fun (n, k) => n == x && (k == .local || k == .cell))
  | .DictComp _ _ _ s p => (if sp.kind.isAnnotationScope then .function else sp.kind) == .function && sp.names.lookup x == some .local && px.line == p.line && !(s.names.any fun (n, k) => n == x && (k == .local || k == .cell))
  | _ => false
theorem swB_ok {env : PySem.Env} {sp : Scope} {e : Expr} {x : Str} {px : Pos} {l : Nat} (hs : env.scope = sp) : swapsWith e (some (.Name x px)) l env = pure (swB sp e x px) := by
  subst hs
  unfold swapsWith swB
  cases e <;> rfl
end Mir

set_option Elab.async false
set_option linter.all false
set_option maxRecDepth 100000
set_option maxHeartbeats 4000000
/-! Mir, part L: statements that write, branch, loop and end. -/
namespace Mir
open PySem PySem.Spec PyProof.Rows L2

/-- x op= y of numbers and texts -/
theorem ip_augD {X : Cx} (op : Operator) : PIp X op (rD2 X (augD op)) := by
  intro pins s σ H v u vv uu Q I rv ru h
  obtain ⟨T, x, y, d, dm, hx, hy, hd, a⟩ := h
  unfold augD at hd
  split at hd
  · cases hx.int_inv; cases hy.int_inv; cases hd
    exact iop_add pins s σ H _ _ vv uu Q I rv ru ⟨_, _, rfl, rfl, a _ _ .mkInt .refl⟩
  · split at hd
    · rename_i hz
      cases hd
      obtain ⟨rfl, _⟩ := hx.str_inv
      obtain ⟨rfl, _⟩ := hy.str_inv
      exact iop_add_str pins s σ H _ _ vv uu Q I rv ru ⟨_, _, rfl, rfl, hz, a _ _ (.mkStr (by rw [Str.length_append]; exact hz)) .refl⟩
    · cases hd
  · cases hx.int_inv; cases hy.int_inv; cases hd
    exact iop_sub pins s σ H _ _ vv uu Q I rv ru ⟨_, _, rfl, rfl, a _ _ .mkInt .refl⟩
  · split at hd
    · rename_i hz
      cases hx.int_inv; cases hy.int_inv; cases hd
      rw [Bool.or_eq_true] at hz
      exact iop_mul pins s σ H _ _ vv uu Q I rv ru ⟨_, _, rfl, rfl, hz.imp small_iff small_iff, a _ _ .mkInt .refl⟩
    · cases hd
  · split at hd
    · rename_i hz
      cases hx.int_inv; cases hy.int_inv; cases hd
      exact iop_fdiv pins s σ H _ _ vv uu Q I rv ru ⟨_, _, rfl, rfl, hz, a _ _ .mkInt .refl⟩
    · cases hd
  · split at hd
    · rename_i hz
      cases hx.int_inv; cases hy.int_inv; cases hd
      exact iop_mod pins s σ H _ _ vv uu Q I rv ru ⟨_, _, rfl, rfl, hz, a _ _ .mkInt .refl⟩
    · cases hd
  · cases hd
theorem augD_nx {op : Operator} {x y : PyData} {n : Str} {l : List PyData} (h : augD op x y = .exc n l) : False := by
  unfold augD at h
  split at h <;> first | (cases h; done) | (split at h <;> cases h)
theorem augD_imm {op : Operator} {x y d : PyData} (h : augD op x y = .ok d) : imm d = true := by
  unfold augD at h
  split at h <;> first | (cases h; rfl) | (cases h; done) | (split at h <;> first | (cases h; rfl) | (cases h; done))
section
variable {S : Type} {X : Cx} {k : SK S} {lv ll : List Nat} {pos : Pos} {e : Expr} {c : E S}
theorem getV_ok {ρ : Env} {i : Nat} {d : PyData} (h : getV ρ i = .ok d) : ρ[i]? = some (some d) := by
  unfold getV at h
  split at h
  · rename_i d' q; cases h; exact q
  · cases h
theorem getL_ok {ρ : Env} {i : Nat} {d : List PyData} (h : getL ρ i = .ok d) : ρ[i]? = some (some (.list d)) := by
  unfold getL at h
  split at h
  · rename_i d' q; cases h; exact q
  · cases h
/-- x.append(e) -/
theorem ss_app {i : Nat} {x : Str} {im : Bool} {p1 p2 p3 : Pos} (he : SE X k c e) (hk : okE e = true) (h1 : X.N[i]? = some x) (h2 : Vis X.env.scope x) (hd1 : (x == ("__debug__" : Str)) = false) (hd2 : (x == ("__classdict__" : Str)) = false)
    (hlv : i ∈ lv) (him : im = true ∨ i ∉ fv c) (hline : (p2.endLine == p3.line) = true) : SS X k lv ll (.app i im c) (.Expr (.Call (.Attribute (.Name x p1) "append" p2) [e] [] p3) pos) (some (lv.filter fun j => im || !(fv c).contains j)) := fun T0 H0 P O ρ st σ H D W hO en t p => by
  refine (ps_expr (pe_bm PySem.F.plainAttrs_list PySem.F.slot_list_append PySem.F.type_list_append mt_append (pe_var h1 h2 hd1 hd2) (pa_cons pe_w pa_nil (star_cons hk _ _)) rfl ?_ hline (star_cons hk _ _) rfl) rfl).w ?_
  · rw [star_cons hk]; rfl
  have hoi := hO i hlv
  cases ho : O i with
  | none => exact absurd ho hoi
  | some a =>
    obtain ⟨d0, g1, g2, g3⟩ := en.v1 i a ho
    have p : PostS X k T0 H0 P (some (lv.filter fun j => im || !(fv c).contains j)) ll (bnd (lft (getL ρ i)) (fun xs => bnd (ev c ρ) fun d => if (im = false ∨ imm d = true) ∧ xs.length < sizeLine then ret (.nx (ρ.set i (some (.list (xs ++ [d]))))) else lft .bad) st) D W := p
    cases hg : getL ρ i with
    | bad => rw [hg] at p; exact p.elim
    | exc n l => unfold getL at hg; split at hg <;> cases hg
    | ok xs =>
      have hx := getL_ok hg
      rw [g1] at hx; cases hx
      rw [hg] at p
      obtain ⟨ws, hw, z, r⟩ := g3
      refine ⟨_, g2, .inl ⟨rfl, ws, .inl (.inl hw)⟩, ?_⟩
      have e1 := en.drop (dropL (fv c) O) dropL_or
      refine he _ ρ st σ H _ W (e1.envR dropL_in) e1.ok t ?_
      rw [lft_ok, bnd_ret] at p
      unfold bnd R.bind lft at p
      dsimp only at p
      unfold PostE
      cases hr : ev c ρ st with
      | exc x l => rw [hr] at p; exact fun cls dx H' hx x => p cls dx σ H' hx (en.ext.trans x)
      | bad => rw [hr] at p; exact p
      | ok q =>
        obtain ⟨d, st1⟩ := q
        rw [hr] at p
        simp only at p
        split at p
        · rename_i hz
          intro v H' rv x rel
          let O3 : Nat → Option Addr := if im = true then O else dropL (fv c) O
          have h3 : ∀ j, O3 j = O j ∨ O3 j = none := fun j => by
            show (if im = true then O else dropL (fv c) O) j = _ ∨ _
            cases im with
            | true => exact .inl rfl
            | false => exact dropL_or j
          have o3 : O3 i = some a := by
            show (if im = true then O else dropL (fv c) O) i = _
            rcases him with rfl | him
            · exact ho
            · cases im with
              | true => exact ho
              | false => rw [if_neg (by decide), dropL_out him]; exact ho
          have e3 := (en.drop O3 h3).next x rel
          have rv3 : Rep (TO T0 O3) H' d v := by
            rcases hz.1 with rfl | hi
            · exact rv.less fun a t => t
            · exact Rep.imm e3.notup _ _ hi rv
          obtain ⟨d2, k1, k2, k3⟩ := e3.v1 i a o3
          rw [g1] at k1; cases k1
          obtain ⟨ws', hw', z', r'⟩ := k3
          have hws : ws' = ws := by
            have := x a _ (en.nloc ho) hw
            rw [hw'] at this; cases this; rfl
          subst hws
          have hlt : ws'.length < sizeLine := by rw [← r'.length]; exact hz.2
          refine ⟨a, ws', v, rfl, rfl, hw', hlt, ?_⟩
          have hT : TO T0 O3 a := .inr ⟨i, o3⟩
          refine p _ rfl _ _ O3 (fun j hj => ?_) (e3.write o3 (d' := .list (xs ++ [d])) ⟨ws' ++ [v], upd_same, by rw [List.length_append]; exact hlt, (r'.append (.cons rv3 .nil)).ext (.wr hT)⟩)
          simp only [List.mem_filter, Bool.or_eq_true, Bool.not_eq_true'] at hj
          show (if im = true then O else dropL (fv c) O) j ≠ none
          cases im with
          | true => exact hO j hj.1
          | false =>
            rw [if_neg (by decide), dropL_out fun z => ?_]
            · exact hO j hj.1
            · rcases hj.2 with h | h
              · cases h
              · rw [List.contains_iff_mem.mpr z] at h; cases h
        · exact p.elim
/-- x op= e -/
theorem ss_aug {i : Nat} {x : Str} {op : Operator} {p1 : Pos} (he : SE X k c e) (nd : X.N.Nodup) (h1 : X.N[i]? = some x) (h2 : Loc X.env.scope x) (h3 : X.fn x = true) (hs : ∀ p, k.slot = some p → p.1 ≠ i) :
    SS X k lv ll (.aug i op c) (.AugAssign (.Name x p1) op e pos) (some (lvPut true (fv c) [i] [] lv)) := fun T0 H0 P O ρ st σ H D W hO en t p => wS.at fun pins sh I => by
  refine (ps_aug nd h1 h2 pe_w (ip_augD op) (.inl h3)).w ?_
  have p : PostS X k T0 H0 P (some (lvPut true (fv c) [i] [] lv)) ll (bnd (lft (getV ρ i)) (fun x => bnd (ev c ρ) fun d => bnd (lft (augD op x d)) fun y => ret (.nx (ρ.set i (some y)))) st) D W := p
  cases hg : getV ρ i with
  | bad => rw [hg] at p; exact p.elim
  | exc n l => unfold getV at hg; split at hg <;> cases hg
  | ok x0 =>
    have hx := getV_ok hg
    rw [hg] at p
    have e1 := en.drop (dropL (i :: fv c) O) dropL_or
    obtain ⟨v0, g1, g2⟩ := e1.v0 i x0 hx (dropL_in i (by simp))
    refine ⟨v0, g1, ?_⟩
    refine he _ ρ st σ H _ W ((e1.envR dropL_in).sub fun j hj => List.mem_cons_of_mem _ hj) e1.ok t ?_
    rw [lft_ok, bnd_ret] at p
    unfold bnd R.bind lft at p
    dsimp only at p
    unfold PostE
    cases hr : ev c ρ st with
    | exc x l => rw [hr] at p; exact fun cls dx H' hx x => p cls dx σ H' hx (en.ext.trans x)
    | bad => rw [hr] at p; exact p
    | ok q =>
      obtain ⟨d, st1⟩ := q
      rw [hr] at p
      simp only at p
      intro v H' rv x rel
      cases ha : augD op x0 d with
      | exc n l => exact (augD_nx ha).elim
      | bad => rw [ha] at p; exact p.elim
      | ok y =>
        rw [ha] at p
        have e2 := e1.next x rel
        refine ⟨_, x0, d, y, (e2.ok (X := X)).dom', g2.ext (x.mono e1.locT), rv, ha, fun w H2 rw' x2 => ?_⟩
        have x2' : Ext k.loc H' H2 := .of_no x2
        have rel2 := (e2.ok (X := X)).relNo x2
        have xx := x.trans x2'
        have rw2 : Rep (TO T0 (dropL (fv c) O)) H2 y w := by
          have e4 := ((en.drop (dropL (fv c) O) dropL_or).next xx rel2)
          exact Rep.imm e4.notup _ _ (augD_imm ha) rw'
        obtain ⟨O', hO', en'⟩ := en.put (L := fv c) (is := [i]) (ks := []) (im := true) hO xx rel2 (.plain (.cons rw2 .nil)) (fun j => by simp) (.inr (by simp [immKs, augD_imm ha])) (by simp) rfl (fun j hj => by simp at hj; subst hj; rw [en.len, I.len]; exact (List.getElem?_eq_some_iff.mp h1).1) (fun p hp hm => hs p hp (by simpa using hm))
        exact p _ rfl _ _ O' hO' en'
/-- an expression -/
theorem ss_expr (he : SE X k c e) (hs : swapsWith e none pos.line X.env = pure false) : SS X k lv ll (.expr c) (.Expr e pos) (some lv) := fun T0 H0 P O ρ st σ H D W hO en t p => by
  refine (ps_expr pe_w hs).w ?_
  have e1 := en.drop (dropL (fv c) O) dropL_or
  refine he _ ρ st σ H _ W (e1.envR dropL_in) e1.ok t ?_
  have p : PostS X k T0 H0 P (some lv) ll (bnd (ev c ρ) (fun _ => ret (.nx ρ)) st) D W := p
  unfold bnd R.bind at p
  unfold PostE
  cases hr : ev c ρ st with
  | exc x l => rw [hr] at p; exact fun cls dx H' hx x => p cls dx σ H' hx (en.ext.trans x)
  | bad => rw [hr] at p; exact p
  | ok q =>
    rw [hr] at p
    exact fun v H' rv x rel => p _ rfl _ _ O hO (en.next x rel)
theorem ss_ret (he : SE X k c e) : SS X k lv ll (.ret c) (.Return (some e) pos) none := fun T0 H0 P O ρ st σ H D W hO en t p => by
  refine (ps_ret pe_w).w ?_
  have e1 := en.drop (dropL (fv c) O) dropL_or
  refine he _ ρ st σ H _ W (e1.envR dropL_in) e1.ok t ?_
  have p : PostS X k T0 H0 P none ll (bnd (ev c ρ) (fun d => ret (.ret d)) st) D W := p
  unfold bnd R.bind at p
  unfold PostE
  cases hr : ev c ρ st with
  | exc x l => rw [hr] at p; exact fun cls dx H' hx x => p cls dx σ H' hx (en.ext.trans x)
  | bad => rw [hr] at p; exact p
  | ok q =>
    rw [hr] at p
    exact fun v H' rv x rel => p v H' (rv.less fun a t => .inl t) (en.ext.trans x) rel
theorem ss_retN : SS X k lv ll .retN (.Return none pos) none := fun T0 H0 P O ρ st σ H D W hO en t p => ps_retN.w (p .non H .mkNone en.ext en.rel)
theorem ss_brk (h : ∀ i ∈ ll, i ∈ lv) : SS X k lv ll .brk (.Break pos) none := fun T0 H0 P O ρ st σ H D W hO en t p => ps_break.w (p σ H O (fun i hi => hO i (h i hi)) en)
theorem ss_cnt (h : ∀ i ∈ ll, i ∈ lv) : SS X k lv ll .cnt (.Continue pos) none := fun T0 H0 P O ρ st σ H D W hO en t p => ps_continue.w (p σ H O (fun i hi => hO i (h i hi)) en)
theorem ss_pass : SS X k lv ll .pass (.Pass pos) (some lv) := fun T0 H0 P O ρ st σ H D W hO en t p => ps_pass.w (p _ rfl σ H O hO en)
theorem ss_doc {x : Str} {j : Nat} {p2 : Pos} : SS X k lv ll .pass (.Expr (.Constant (.str x) j p2) pos) (some lv) := fun T0 H0 P O ρ st σ H D W hO en t p => ps_doc.w (p _ rfl σ H O hO en)
/-- the class x may be raised -/
def RaiseOk (G : GX) (x : Str) : Prop := ∃ (C : Addr) (bmB : List Value) (B newId initId : String), ExcBaseFacts B newId initId bmB ∧ PySem.W.excIn G.K C bmB newId = true ∧ G.mg x = some (.ref C) ∧ PySem.W.keepIn G.K (.ref C) = true ∧
  PySem.W.subIn G.K (.ref C) (.type "BaseException") = some true ∧ PySem.W.typeIn G.K (.ref C) = some (.type "type")
theorem ss_raise {x m : Str} {p1 p2 p3 : Pos} {j : Nat} (hc : X.calm = true) (hr : RaiseOk (gx X) x) (hg : Gl X x) (hdb : (x == ("__debug__" : Str)) = false) : SS X k lv ll (.raise_ x) (.Raise (some (.Call (.Name x p1) [.Constant (.str m) j p2] [] p3)) none pos) none := fun T0 H0 P O ρ st σ H D W hO en t p => by
  obtain ⟨C, bmB, B, newId, initId, F, q, gC, kC, s1, s2⟩ := hr
  exact (ps_raise hc t (pmk_own F q gC kC (raises_own s1 s2) hg hdb)).w (p (.ref C) none σ H ⟨gC, rfl, rfl⟩ en.ext)
/-! ### blocks -/
theorem sss_nil : SSs X k lv ll .nil [] (some lv) := fun T0 H0 P O ρ st σ H D W hO en t p => pss_nil.w (p _ rfl σ H O hO en)
theorem sss_cons {cs : St S} {r : Sts S} {s : Stmt} {rest : List Stmt} {lv1 lv2 : Option (List Nat)} (h : SS X k lv ll cs s lv1) (h2 : ∀ l, lv1 = some l → SSs X k l ll r rest lv2) : SSs X k lv ll (.cons cs r) (s :: rest) (if lv1.isSome then lv2 else none) := fun T0 H0 P O ρ st σ H D W hO en t p => by
  refine (pss_cons ps_w pss_w).w ?_
  refine h T0 H0 P O ρ st σ H { D with nx := fun σ' H' => wSs X rest D σ' H' } W hO en t ?_
  have p : PostS X k T0 H0 P (if lv1.isSome then lv2 else none) ll (bnd (run cs ρ) (fun fl => match fl with
    | .nx ρ' => runs r ρ'
    | .ret d => ret (.ret d)
    | .brk ρ' => ret (.brk ρ')
    | .cnt ρ' => ret (.cnt ρ')) st) D W := p
  unfold bnd R.bind at p
  cases hr : run cs ρ st with
  | exc x l => rw [hr] at p; exact p
  | bad => rw [hr] at p; exact p
  | ok q =>
    obtain ⟨fl, st1⟩ := q
    rw [hr] at p
    cases fl with
    | nx ρ' =>
      intro l hl σ' H' O' hO' en'
      subst hl
      exact h2 l rfl T0 H0 P O' ρ' st1 σ' H' D W hO' en' t p
    | ret d => exact p
    | brk ρ' => exact p
    | cnt ρ' => exact p
def meet : Option (List Nat) → Option (List Nat) → Option (List Nat)
  | none, b => b
  | a, none => a
  | some a, some b => some (a.filter b.contains)
theorem meet_l {a b : Option (List Nat)} : ∀ l, a = some l → ∃ l', meet a b = some l' ∧ ∀ i ∈ l', i ∈ l := fun l h => by
  subst h
  cases b with
  | none => exact ⟨l, rfl, fun i h => h⟩
  | some b => exact ⟨_, rfl, fun i h => (List.mem_filter.mp h).1⟩
theorem meet_r {a b : Option (List Nat)} : ∀ l, b = some l → ∃ l', meet a b = some l' ∧ ∀ i ∈ l', i ∈ l := fun l h => by
  subst h
  cases a with
  | none => exact ⟨l, rfl, fun i h => h⟩
  | some b => exact ⟨_, rfl, fun i h => by simpa using (List.mem_filter.mp h).2⟩
theorem ss_ite {a b : Sts S} {sa sb : List Stmt} {la lb : Option (List Nat)} (ht : ST X k c e) (ha : SSs X k lv ll a sa la) (hb : SSs X k lv ll b sb lb) : SS X k lv ll (.ite c a b) (.If e sa sb pos) (meet la lb) := fun T0 H0 P O ρ st σ H D W hO en t p => by
  refine (ps_if pt_w pss_w pss_w).w ?_
  have e1 := en.drop (dropL (fv c) O) dropL_or
  refine ht _ ρ st σ H _ W (e1.envR dropL_in) e1.ok t ?_
  have p : PostS X k T0 H0 P (meet la lb) ll (bnd (ev c ρ) (fun t => if truthy t = true then runs a ρ else runs b ρ) st) D W := p
  unfold bnd R.bind at p
  unfold PostT
  cases hr : ev c ρ st with
  | exc x l => rw [hr] at p; exact fun cls dx H' hx x => p cls dx σ H' hx (en.ext.trans x)
  | bad => rw [hr] at p; exact p
  | ok q =>
    obtain ⟨d, st1⟩ := q
    rw [hr] at p
    intro H' x rel
    have p : PostS X k T0 H0 P (meet la lb) ll ((if truthy d = true then runs a ρ else runs b ρ) st1) D W := p
    cases hd : truthy d with
    | true =>
      rw [hd, if_pos rfl] at p
      rw [if_pos rfl]
      exact ha T0 H0 P O ρ st1 σ H' D W hO (en.next x rel) t (p.weak meet_l)
    | false =>
      rw [hd, if_neg Bool.false_ne_true] at p
      rw [if_neg Bool.false_ne_true]
      exact hb T0 H0 P O ρ st1 σ H' D W hO (en.next x rel) t (p.weak meet_r)
/-! ### loops -/
theorem ss_while {li : List Nat} {n : Nat} {body : Sts S} {sb : List Stmt} {lb : Option (List Nat)} (hp : PassesOwn (model X.prog X.w) X.A X.env X.xe) (ht : ST X k c e) (hb : SSs X k li li body sb lb) (h1 : ∀ i ∈ li, i ∈ lv) (h2 : ∀ l, lb = some l → ∀ i ∈ li, i ∈ l) :
    SS X k lv ll (.while_ li n c body) (.While e sb [] pos) (some li) := fun T0 H0 P O ρ st σ H D W hO en t p => by
  refine (ps_while hp pt_w pss_w).w ?_
  have p : PostS X k T0 H0 P (some li) ll (whileGo (fun ρ => ev c ρ) (fun ρ => runs body ρ) n ρ st) D W := p
  refine ⟨fun m σ H => ∃ ρ st O, (∀ i ∈ li, O i ≠ none) ∧ EnvO k T0 H0 P O ρ st σ H ∧ PostS X k T0 H0 P (some li) ll (whileGo (fun ρ => ev c ρ) (fun ρ => runs body ρ) m ρ st) D W, ⟨n, ρ, st, O, fun i hi => hO i (h1 i hi), en, p⟩, ?_⟩
  clear p en hO
  rintro m σ H ⟨ρ, st, O, hO, en, p⟩
  cases m with
  | zero => exact p.elim
  | succ m =>
    have e1 := en.drop (dropL (fv c) O) dropL_or
    refine ht _ ρ st σ H _ W (e1.envR dropL_in) e1.ok t ?_
    simp only [whileGo] at p
    unfold bnd R.bind at p
    dsimp only at p
    unfold PostT
    cases hr : ev c ρ st with
    | exc x l => rw [hr] at p; exact fun cls dx H' hx x => p cls dx σ H' hx (en.ext.trans x)
    | bad => rw [hr] at p; exact p
    | ok q =>
      obtain ⟨d, st1⟩ := q
      rw [hr] at p
      intro H' x rel
      dsimp only at p
      have en1 := en.next x rel
      cases hd : truthy d with
      | false =>
        rw [hd, if_neg Bool.false_ne_true] at p
        rw [if_neg Bool.false_ne_true]
        exact p _ rfl _ _ O hO en1
      | true =>
        rw [hd, if_pos rfl] at p
        rw [if_pos rfl]
        refine ⟨fun σ' H' => ∃ ρ st O, (∀ i ∈ li, O i ≠ none) ∧ EnvO k T0 H0 P O ρ st σ' H' ∧ PostS X k T0 H0 P (some li) ll (whileGo (fun ρ => ev c ρ) (fun ρ => runs body ρ) m ρ st) D W, fun σ' H' h => ⟨m, by omega, h⟩, ?_⟩
        refine hb T0 H0 P O ρ st1 σ H' _ W hO en1 t ?_
        cases hr2 : runs body ρ st1 with
        | exc x l => rw [hr2] at p; exact p
        | bad => rw [hr2] at p; exact p
        | ok q =>
          obtain ⟨fl, st2⟩ := q
          rw [hr2] at p
          cases fl with
          | nx ρ' => exact fun l hl σ' H' O' hO' en' => ⟨ρ', st2, O', fun i hi => hO' i (h2 l hl i hi), en', p⟩
          | cnt ρ' => exact fun σ' H' O' hO' en' => ⟨ρ', st2, O', hO', en', p⟩
          | brk ρ' => exact fun σ' H' O' hO' en' => p _ rfl _ _ O' hO' en'
          | ret d => exact p
theorem for_core {li : List Nat} {tgt : Tg} {etg : Expr} {body : Sts S} {sb : List Stmt} {lb : Option (List Nat)} {T0 : Addr → Prop} {H0 : Hp} {P : Addr → HO → Prop} {O : Nat → Option Addr} {ρ : Env} {st : S} {σ : L2.St} {H : Hp} {D : Ends} {W : WX} {J : L2.It} {items : List PyData}
    (nd : X.N.Nodup) (hc : X.calm = true) (ht : TgOk X tgt etg) (hb : SSs X k li li body sb lb) (h2 : ∀ l, lb = some l → ∀ i ∈ li, i ∈ l) (h3 : ∀ i ∈ tgs tgt, i ∉ li) (hbb : ∀ i ∈ tgs tgt, i < X.N.length) (hs : ∀ p, k.slot = some p → p.1 ∉ tgs tgt) (hnd : (tgs tgt).Nodup)
    (hJ : JW (TO T0 O) items J H) (hO : ∀ i ∈ li, O i ≠ none) (en : EnvO k T0 H0 P O ρ st σ H) (t : Takes X W)
    (p : PostS X k T0 H0 P (some li) ll (forGo (fun x ρ => bnd (lft (Mir.asg tgt x ρ)) fun ρ' => runs body ρ') items ρ st) D W) :
    ∃ W : Nat → Nat → L2.St → Hp → Prop, (∃ m, W 0 m σ H) ∧ ∀ i m σ H, W i m σ H →
      (J.stop i H ∧ D.nx σ H) ∨ (J.go i H ∧ ∃ N : L2.St → Hp → Prop, (∀ σ' H', N σ' H' → ∃ m', m' < m ∧ W (i + 1) m' σ' H') ∧ ∀ x H', J.yld i H x H' → wG X etg x σ H' fun σ2 H2 => wSs X sb { D with nx := N, ct := N, bk := D.nx } σ2 H2) := by
  generalize hf : (fun (x : PyData) (ρ : Env) => bnd (lft (Mir.asg tgt x ρ)) fun ρ' => runs (S := S) body ρ') = f at p
  let P' : Addr → HO → Prop := fun a o => P a o ∨ (¬ TO T0 O a ∧ H a = some o)
  refine ⟨fun i m σ' H' => m = items.length - i ∧ i ≤ items.length ∧ ∃ ρ' st' O', (∀ i ∈ li, O' i ≠ none) ∧ EnvO k T0 H0 P' O' ρ' st' σ' H' ∧ PostS X k T0 H0 P (some li) ll (forGo f (items.drop i) ρ' st') D W,
    ⟨items.length, rfl, Nat.zero_le _, ρ, st, O, hO, { en with kept := fun a o q => q.elim (en.kept a o) id }, p⟩, ?_⟩
  rintro i m σ' H' ⟨rfl, hi, ρ', st', O', hO', en', p⟩
  have mv : Mv (TO T0 O) (TO T0 O') H H' := ⟨fun a o n h => (en'.kept a o (.inr ⟨n, h⟩)).1, fun a o n h => (en'.kept a o (.inr ⟨n, h⟩)).2⟩
  obtain ⟨jg, js⟩ := hJ i H' _ mv (en'.ok (X := X)).dom'
  by_cases hlt : i < items.length
  · obtain ⟨jgo, jy⟩ := jg hlt
    refine .inr ⟨jgo, fun σ2 H2 => i + 1 ≤ items.length ∧ ∃ ρ' st' O', (∀ i ∈ li, O' i ≠ none) ∧ EnvO k T0 H0 P' O' ρ' st' σ2 H2 ∧ PostS X k T0 H0 P (some li) ll (forGo f (items.drop (i + 1)) ρ' st') D W, fun σ2 H2 h => ⟨items.length - (i + 1), by omega, rfl, h⟩, fun x H2 hy => ?_⟩
    obtain ⟨⟨d, hd, rd⟩, e2⟩ := jy x H2 hy
    have hdrop : items.drop i = d :: items.drop (i + 1) := by
      rw [List.drop_eq_getElem_cons hlt]
      rw [List.getElem?_eq_getElem hlt] at hd
      cases hd; rfl
    rw [hdrop] at p
    have e2k : Ext k.loc H' H2 := .of_no e2
    have rel2 := (en'.ok (X := X)).relNo e2
    have p : PostS X k T0 H0 P (some li) ll ((f d ρ' st').bind fun q => (match q.1 with
      | .nx ρ' => forGo f (items.drop (i + 1)) ρ'
      | .cnt ρ' => forGo f (items.drop (i + 1)) ρ'
      | .brk ρ' => ret (.nx ρ')
      | .ret d => ret (.ret d)) q.2) D W := p
    have hfd : f d ρ' st' = bnd (lft (Mir.asg tgt d ρ')) (fun ρ' => runs (S := S) body ρ') st' := by rw [← hf]
    cases ha : Mir.asg tgt d ρ' with
    | exc x l => unfold Mir.asg at ha; split at ha <;> first | (cases ha; done) | (split at ha <;> cases ha)
    | bad => rw [hfd, ha] at p; exact p.elim
    | ok ρ2 =>
      have hfd2 : f d ρ' st' = runs (S := S) body ρ2 st' := by rw [hfd, ha]; rfl
      rw [hfd2] at p
      intro pins sh u I r
      refine sg nd hc ht ha rd (fun ds vs rv hl hρ => ?_) pins sh u I r
      have e3 := (en'.drop (dropL (tgs tgt) O') dropL_or)
      have rv3 : RepL (TO T0 (dropL (tgs tgt) O')) H2 ds vs := rv.less (TO.mono fun i a h => by
        rcases dropL_or (L := tgs tgt) (O := O') i with z | z
        · rw [← z]; exact h
        · rw [z] at h; cases h)
      have e4 := e3.commit (is := tgs tgt) e2k rel2 (.plain rv3) hnd (by rw [hl, rv.length]) (fun i hi => by rw [en'.len, I.len]; exact hbb i hi) hs dropL_in
      rw [← hρ] at e4
      have hO4 : ∀ i ∈ li, putO (dropL (tgs tgt) O') (tgs tgt) (fun _ => none) i ≠ none := fun i hi => by
        have hn : i ∉ tgs tgt := fun z => h3 i z hi
        rw [putO_out hn, dropL_out hn]
        exact hO' i hi
      refine hb T0 H0 P' _ ρ2 st' _ H2 _ W hO4 e4 t ?_
      have weak : ∀ {O ρ st σ H}, EnvO k T0 H0 P' O ρ st σ H → EnvO k T0 H0 P O ρ st σ H := fun e => e.weakP fun a o q => .inl q
      cases hr2 : runs body ρ2 st' with
      | exc x l => rw [hr2] at p; exact p
      | bad => rw [hr2] at p; exact p
      | ok q =>
        obtain ⟨fl, st2⟩ := q
        rw [hr2] at p
        cases fl with
        | nx ρ3 => exact fun l hl σ' H' O' hO' en' => ⟨hlt, ρ3, st2, O', fun i hi => hO' i (h2 l hl i hi), en', p⟩
        | cnt ρ3 => exact fun σ' H' O' hO' en' => ⟨hlt, ρ3, st2, O', hO', en', p⟩
        | brk ρ3 => exact fun σ' H' O' hO' en' => p _ rfl _ _ O' hO' (weak en')
        | ret d => exact p
  · have hi' : i = items.length := by omega
    subst hi'
    refine .inl ⟨js (Nat.le_refl _), ?_⟩
    rw [List.drop_length] at p
    exact p _ rfl _ _ O' hO' (en'.weakP fun a o q => .inl q)
end
end Mir

set_option Elab.async false
set_option linter.all false
set_option maxRecDepth 100000
set_option maxHeartbeats 4000000
/-! Mir, part M: for, x[i] = e. -/
namespace Mir
open PySem PySem.Spec PyProof.Rows L2

section
variable {S : Type} {X : Cx} {k : SK S} {lv ll : List Nat} {pos : Pos} {e : Expr} {c : E S}
theorem ss_for {li : List Nat} {tgt : Tg} {it : Mir.It S} {etg eit : Expr} {body : Sts S} {sb : List Stmt} {lb : Option (List Nat)} (hp : PassesOwn (model X.prog X.w) X.A X.env X.xe) (nd : X.N.Nodup) (hc : X.calm = true) (hi : SI X k etg it eit) (hk : okE eit = true) (ht : TgOk X tgt etg) (hb : SSs X k li li body sb lb)
    (h1 : ∀ i ∈ li, i ∈ lv ∧ i ∉ fvI it) (h2 : ∀ l, lb = some l → ∀ i ∈ li, i ∈ l) (h3 : ∀ i ∈ tgs tgt, i ∉ li) (hbb : ∀ i ∈ tgs tgt, i < X.N.length) (hs : ∀ p, k.slot = some p → p.1 ∉ tgs tgt) (hnd : (tgs tgt).Nodup) :
    SS X k lv ll (.for_ li tgt it body) (.For etg eit sb [] pos) (some li) := fun T0 H0 P O ρ st σ H D W hO en t p => by
  refine (ps_for hp hc pi_w pg_w pss_w (fold_ok hk _)).w ?_
  have e1 := en.drop (dropL (fvI it) O) dropL_or
  refine hi _ ρ st σ H _ W (e1.envR dropL_in) e1.ok t ?_
  have p : PostS X k T0 H0 P (some li) ll (bnd (evIt it ρ) (fun xs => forGo (fun x ρ => bnd (lft (Mir.asg tgt x ρ)) fun ρ' => runs body ρ') xs ρ) st) D W := p
  unfold bnd R.bind at p
  unfold PostI
  cases hr : evIt it ρ st with
  | exc x l => rw [hr] at p; exact fun cls dx H' hx x => p cls dx σ H' hx (en.ext.trans x)
  | bad => rw [hr] at p; exact p
  | ok q =>
    obtain ⟨items, st1⟩ := q
    rw [hr] at p
    exact fun J H' jw hz x rel => for_core nd hc ht hb h2 h3 hbb hs hnd jw (fun i hi => by rw [dropL_out (h1 i hi).2]; exact hO i (h1 i hi).1) (e1.next x rel) t p
/-- a range: its numbers do not lean on the heap -/
def SIr (X : Cx) (k : SK S) (tg : Expr) (c : Mir.It S) (e : Expr) : Prop := ∀ (T : Addr → Prop) (ρ : Env) (st : S) (σ : L2.St) (H : Hp) (Q : L2.It → Hp → Prop) (W : WX),
  EnvR X k T (fvI c) ρ σ H → Ok X k T st H → Takes X W → (match evIt c ρ st with
  | .ok (items, st) => ∀ J H', (∀ T, JW T items J H') → Ext k.loc H H' → k.rel st H' → Q J H'
  | .exc x l => ∀ cls dx H', XcIs X.mg x l cls dx H' → Ext k.loc H H' → W cls dx σ H'
  | .bad => False) → wI X tg e σ H Q
theorem ss_forR {li : List Nat} {tgt : Tg} {it : Mir.It S} {etg eit : Expr} {body : Sts S} {sb : List Stmt} {lb : Option (List Nat)} (hp : PassesOwn (model X.prog X.w) X.A X.env X.xe) (nd : X.N.Nodup) (hc : X.calm = true) (hi : SIr X k etg it eit) (hk : okE eit = true) (ht : TgOk X tgt etg) (hb : SSs X k li li body sb lb)
    (h1 : ∀ i ∈ li, i ∈ lv) (h2 : ∀ l, lb = some l → ∀ i ∈ li, i ∈ l) (h3 : ∀ i ∈ tgs tgt, i ∉ li) (hbb : ∀ i ∈ tgs tgt, i < X.N.length) (hs : ∀ p, k.slot = some p → p.1 ∉ tgs tgt) (hnd : (tgs tgt).Nodup) :
    SS X k lv ll (.for_ li tgt it body) (.For etg eit sb [] pos) (some li) := fun T0 H0 P O ρ st σ H D W hO en t p => by
  refine (ps_for hp hc pi_w pg_w pss_w (fold_ok hk _)).w ?_
  have e1 := en.drop (dropL (fvI it) O) dropL_or
  refine hi _ ρ st σ H _ W (e1.envR dropL_in) e1.ok t ?_
  have p : PostS X k T0 H0 P (some li) ll (bnd (evIt it ρ) (fun xs => forGo (fun x ρ => bnd (lft (Mir.asg tgt x ρ)) fun ρ' => runs body ρ') xs ρ) st) D W := p
  unfold bnd R.bind at p
  cases hr : evIt it ρ st with
  | exc x l => rw [hr] at p; exact fun cls dx H' hx x => p cls dx σ H' hx (en.ext.trans x)
  | bad => rw [hr] at p; exact p
  | ok q =>
    obtain ⟨items, st1⟩ := q
    rw [hr] at p
    exact fun J H' jw x rel => for_core nd hc ht hb h2 h3 hbb hs hnd (jw _) (fun i hi => hO i (h1 i hi)) (en.next x rel) t p
theorem sir_range1 {a : E S} {ea tg : Expr} {pn pos : Pos} (hg : Gl X "range") (hm : X.mg "range" = none) (ha : SE X k a ea) (hk : okE ea = true) : SIr X k tg (.range1 a) (.Call (.Name "range" pn) [ea] [] pos) := fun T ρ st σ H Q W n o t p => by
  refine (pi_range1 hg hm (pa_cons pe_w pa_nil (star_cons hk _ _)) (star_cons hk _ _)).w ?_
  refine ha T ρ st σ H _ W n o t ?_
  have hs : sizeLine = 16777216 := sizeLine_eq
  simp only [evIt] at p
  unfold bnd R.bind lft at p
  dsimp only at p
  unfold PostE
  cases hr : ev a ρ st with
  | exc x l => rw [hr] at p; exact p
  | bad => rw [hr] at p; exact p
  | ok q =>
    obtain ⟨d, st1⟩ := q
    rw [hr] at p
    intro v H' rv x rel
    simp only at p
    cases hi : intR d with
    | exc x l => exact (intR_nx hi).elim
    | bad => rw [hi] at p; exact p.elim
    | ok j =>
      rw [hi] at p
      simp only at p
      rw [intR_ok hi] at rv
      by_cases hb : j ≤ sizeLine ∧ -(2 ^ 62) ≤ j
      · rw [if_pos hb] at p
        exact ⟨j, by rw [rv.int_inv], hb.2, by omega, p _ H' (fun T => .range) x rel⟩
      · rw [if_neg hb] at p; exact p.elim
theorem sir_range2 {a b : E S} {ea eb tg : Expr} {pn pos : Pos} (hg : Gl X "range") (hm : X.mg "range" = none) (ha : SE X k a ea) (hb : SE X k b eb) (hk : okE ea = true) (hk2 : okE eb = true) : SIr X k tg (.range2 a b) (.Call (.Name "range" pn) [ea, eb] [] pos) := fun T ρ st σ H Q W n o t p => by
  refine (pi_range2 hg hm (pa_cons pe_w (pa_cons pe_w pa_nil (star_cons hk2 _ _)) (star_cons hk _ _)) (by rw [star_cons hk, star_cons hk2]; rfl) (star_cons hk2 _ _)).w ?_
  refine ha T ρ st σ H _ W n.left o t ?_
  have hs : sizeLine = 16777216 := sizeLine_eq
  simp only [evIt] at p
  unfold bnd R.bind lft at p
  dsimp only at p
  unfold PostE
  cases hr : ev a ρ st with
  | exc x l => rw [hr] at p; exact p
  | bad => rw [hr] at p; exact p
  | ok q =>
    obtain ⟨d, st1⟩ := q
    rw [hr] at p
    intro v H1 rv x rel
    simp only at p
    have o1 := o.next x rel
    refine hb T ρ st1 σ H1 _ W (n.right.next (o.extT x)) o1 t ?_
    unfold PostE
    cases hr2 : ev b ρ st1 with
    | exc y l => rw [hr2] at p; exact fun cls dx H' hx x2 => p cls dx H' hx (x.trans x2)
    | bad => rw [hr2] at p; exact p
    | ok q2 =>
      obtain ⟨d2, st2⟩ := q2
      rw [hr2] at p
      intro v2 H2 rv2 x2 rel2
      simp only at p
      cases hi : intR d with
      | exc x l => exact (intR_nx hi).elim
      | bad => rw [hi] at p; exact p.elim
      | ok j =>
        rw [hi] at p
        simp only at p
        rw [intR_ok hi] at rv
        cases hi2 : intR d2 with
        | exc x l => exact (intR_nx hi2).elim
        | bad => rw [hi2] at p; exact p.elim
        | ok j2 =>
          rw [hi2] at p
          simp only at p
          rw [intR_ok hi2] at rv2
          by_cases hb : -(2 ^ 62) ≤ j ∧ j < 2 ^ 62 ∧ -(2 ^ 62) ≤ j2 ∧ j2 < 2 ^ 62 ∧ (j2 - j).toNat ≤ sizeLine
          · rw [if_pos hb] at p
            refine ⟨j, j2, by rw [rv.int_inv, rv2.int_inv], ⟨hb.1, hb.2.1, hb.2.2.1, hb.2.2.2.1⟩, p _ H2 (fun T => .range) (x.trans x2) rel2⟩
          · rw [if_neg hb] at p; exact p.elim

theorem set_self {α : Type} : ∀ {l : List α} {i : Nat} {a : α}, l[i]? = some a → l.set i a = l
  | [], _, _, h => rfl
  | b :: l, 0, a, h => by cases h; rfl
  | b :: l, i + 1, a, h => by
    rw [List.set_cons_succ, set_self (by simpa using h)]
/-- x[i] = e -/
theorem ss_setItem {i : Nat} {x : Str} {im : Bool} {ci : E S} {ei : Expr} {p1 p2 : Pos} (w : X.A.units + 200 < cLine) (he : SE X k c e) (hx : SE X k ci ei) (hk : okE ei = true) (h1 : X.N[i]? = some x) (h2 : Vis X.env.scope x) (hd1 : (x == ("__debug__" : Str)) = false) (hd2 : (x == ("__classdict__" : Str)) = false)
    (hlv : i ∈ lv) (him : im = true ∨ i ∉ fv c) (hst : ∀ v, assign (.Subscript (.Name x p1) ei p2) X.env v = (do
      let ov ← holding [v] (eval (.Name x p1) X.env)
      let iv ← holding [v, ov] (eval ei X.env)
      standAt p2
      holding [v, ov, iv] (setItem ov iv v)
      release [v, ov, iv] [])) (hs : swapsWith e (some (.Subscript (.Name x p1) ei p2)) pos.line X.env = pure false) :
    SS X k lv ll (.setItem i im ci c) (.Assign [.Subscript (.Name x p1) ei p2] e pos) (some (lv.filter fun j => im || !(fv c).contains j)) := fun T0 H0 P O ρ st σ H D W hO en t p => by
  have hoi := hO i hlv
  cases ho : O i with
  | none => exact absurd ho hoi
  | some a =>
    obtain ⟨d0, g1, g2, g3⟩ := en.v1 i a ho
    have p : PostS X k T0 H0 P (some (lv.filter fun j => im || !(fv c).contains j)) ll (bnd (ev c ρ) (fun d => if im = false ∨ imm d = true then bnd (lft (getV ρ i)) fun x => bnd (ev ci ρ) fun k => bnd (lft (setItemD x k d)) fun y => ret (.nx (ρ.set i (some y))) else lft .bad) st) D W := p
    have hg : getV ρ i = .ok d0 := by unfold getV; rw [g1]
    rw [hg] at p
    -- the value
    have ph1 : ∀ Q1 : VK, (∀ v H1 st1 d O3, O3 i = some a → (∀ j ∈ lv.filter (fun j => im || !(fv c).contains j), O3 j ≠ none) → EnvO k T0 H0 P O3 ρ st1 σ H1 → Rep (TO T0 O3) H1 d v →
        PostS X k T0 H0 P (some (lv.filter fun j => im || !(fv c).contains j)) ll (bnd (ev ci ρ) (fun k => bnd (lft (setItemD d0 k d)) fun y => ret (.nx (ρ.set i (some y)))) st1) D W → Q1 v H1) → wE X e σ H Q1 := fun Q1 hQ => by
      have e1 := en.drop (dropL (fv c) O) dropL_or
      refine he _ ρ st σ H _ W (e1.envR dropL_in) e1.ok t ?_
      unfold bnd R.bind at p
      unfold PostE
      cases hr : ev c ρ st with
      | exc x l => rw [hr] at p; exact fun cls dx H' hx x => p cls dx σ H' hx (en.ext.trans x)
      | bad => rw [hr] at p; exact p
      | ok q =>
        obtain ⟨d, st1⟩ := q
        rw [hr] at p
        intro v H1 rv x1 rel1
        dsimp only at p
        by_cases hz : im = false ∨ imm d = true
        · rw [if_pos hz, lft_ok] at p
          let O3 : Nat → Option Addr := if im = true then O else dropL (fv c) O
          have h3 : ∀ j, O3 j = O j ∨ O3 j = none := fun j => by
            show (if im = true then O else dropL (fv c) O) j = _ ∨ _
            cases im with
            | true => exact .inl rfl
            | false => exact dropL_or j
          have o3 : O3 i = some a := by
            show (if im = true then O else dropL (fv c) O) i = _
            rcases him with rfl | him
            · exact ho
            · cases im with
              | true => exact ho
              | false => rw [if_neg (by decide), dropL_out him]; exact ho
          have e3 := (en.drop O3 h3).next x1 rel1
          have rv3 : Rep (TO T0 O3) H1 d v := by
            rcases hz with rfl | hi
            · exact rv.less fun a t => t
            · exact Rep.imm e3.notup _ _ hi rv
          have hl3 : ∀ j ∈ lv.filter (fun j => im || !(fv c).contains j), O3 j ≠ none := fun j hj => by
            simp only [List.mem_filter, Bool.or_eq_true, Bool.not_eq_true'] at hj
            show (if im = true then O else dropL (fv c) O) j ≠ none
            cases im with
            | true => exact hO j hj.1
            | false =>
              rw [if_neg (by decide), dropL_out fun z => ?_]
              · exact hO j hj.1
              · rcases hj.2 with h | h
                · cases h
                · rw [List.contains_iff_mem.mpr z] at h; cases h
          exact hQ v H1 st1 d O3 o3 hl3 e3 rv3 p
        · rw [if_neg hz] at p; exact p.elim
    -- the index
    have ph2 : ∀ (Q2 : VK) (v : V) (H1 : Hp) (st1 : S) (d : PyData) (O3 : Nat → Option Addr), O3 i = some a → (∀ j ∈ lv.filter (fun j => im || !(fv c).contains j), O3 j ≠ none) → EnvO k T0 H0 P O3 ρ st1 σ H1 → Rep (TO T0 O3) H1 d v →
        PostS X k T0 H0 P (some (lv.filter fun j => im || !(fv c).contains j)) ll (bnd (ev ci ρ) (fun k => bnd (lft (setItemD d0 k d)) fun y => ret (.nx (ρ.set i (some y)))) st1) D W →
        (∀ y H3 kd st2 d', ev ci ρ st1 = .ok (kd, st2) → EnvO k T0 H0 P O3 ρ st2 σ H3 → Ext (TO T0 (dropL [i] O3)) H1 H3 → H3 a = H1 a → Rep (TO T0 O3) H3 d v → Rep (TO T0 (dropL (fv ci) O3)) H3 kd y → setItemD d0 kd d = .ok d' → (∀ o, Own1 (TO T0 O3) (upd H3 a o) d' a → D.nx σ (upd H3 a o)) → Q2 y H3) → wE X ei σ H1 Q2 := fun Q2 v H1 st1 d O3 o3 hl3 e3 rv3 p hQ => by
      have e4 := e3.drop (dropL (fv ci) O3) dropL_or
      refine hx _ ρ st1 σ H1 _ W (e4.envR dropL_in) e4.ok t ?_
      unfold bnd R.bind lft at p
      dsimp only at p
      unfold PostE
      cases hr2 : ev ci ρ st1 with
      | exc x l => rw [hr2] at p; exact fun cls dx H' hx x => p cls dx σ H' hx (e3.ext.trans x)
      | bad => rw [hr2] at p; exact p
      | ok q2 =>
        obtain ⟨kd, st2⟩ := q2
        rw [hr2] at p
        intro y H3 ry x3 rel3
        dsimp only at p
        have e5 := e3.next x3 rel3
        have hA : H3 a = H1 a := by
          obtain ⟨_, _, _, q⟩ := e3.v1 i a o3
          obtain ⟨o, q, _⟩ := q.there
          rw [x3 a o (e3.nloc o3) q, q]
        cases hsd : setItemD d0 kd d with
        | exc n l => unfold setItemD at hsd; split at hsd <;> first | (cases hsd; done) | (split at hsd <;> cases hsd)
        | bad => rw [hsd] at p; exact p.elim
        | ok d' =>
          rw [hsd] at p
          exact hQ y H3 kd st2 d' hr2 e5 (x3.mono fun b l => .inl (e3.loc b l)) hA (rv3.ext (x3.mono e3.locT)) ry hsd fun o ho' => p _ rfl _ _ O3 hl3 (e5.write o3 ho')
    cases d0 with
    | list ds =>
      obtain ⟨ws, hw, z, r⟩ := g3
      refine (ps_asg pe_w (pg_sub (pe_var h1 h2 hd1 hd2) pe_w set_list hst) hs rfl).w ?_
      refine ph1 _ fun v H1 st1 d O3 o3 hl3 e3 rv3 p => ⟨_, g2, ?_⟩
      refine ph2 _ v H1 st1 d O3 o3 hl3 e3 rv3 p fun y H3 kd st2 d' hev e5 x5 hA rv5 ry hsd fin => ?_
      obtain ⟨d1, k1, k2, k3⟩ := e5.v1 i a o3
      rw [g1] at k1; cases k1
      obtain ⟨ws', hw', z', r'⟩ := k3
      cases kd with
      | int kk =>
        have hsd : (match ixN ds.length kk with | some j => R.ok (PyData.list (ds.set j d)) | none => .bad) = .ok d' := hsd
        split at hsd
        · rename_i j hj
          cases hsd
          exact ⟨a, ws', kk, j, rfl, ry.int_inv, hw', by rw [← r'.length]; exact hj, fin _ ⟨ws'.set j v, upd_same, by rw [List.length_set]; exact z', (r'.set rv5 j).ext (.wr (.inr ⟨i, o3⟩))⟩⟩
        · cases hsd
      | _ => cases hsd
    | dict kvs =>
      have hdput : ∀ (H3 : Hp) (O3 : Nat → Option Addr) (kd d d' : PyData) (v y : V), O3 i = some a → Rep (TO T0 O3) H3 d v → Rep (TO T0 (dropL (fv ci) O3)) H3 kd y → setItemD (.dict kvs) kd d = .ok d' → (∀ o, Own1 (TO T0 O3) (upd H3 a o) d' a → D.nx σ (upd H3 a o)) →
          ((isTup kd = false ∧ ∃ ks, H3 a = some (.dK ks) ∧ RepK (TO T0 O3) H3 kvs ks) ∨ (isTup kd = true ∧ ∃ ks, H3 a = some (.dT ks) ∧ RepT (TO T0 O3) H3 kvs ks)) → ∃ a' H4, V.ref a = .ref a' ∧ DPut H3 a' y v H4 ∧ D.nx σ H4 := fun H3 O3 kd d d' v y o3 rv ry hsd fin hk' => by
        have hsd : (if kindOk kvs kd = true ∧ kvs.length < sizeLine then R.ok (.dict (putD kvs kd d)) else .bad) = .ok d' := by
          cases kd <;> exact hsd
        split at hsd
        · rename_i hz
          cases hsd
          have kok : keyD kd = true := by have := hz.1; unfold kindOk at this; rw [Bool.and_eq_true] at this; exact this.1
          have hT : TO T0 O3 a := .inr ⟨i, o3⟩
          rcases hk' with ⟨it, ks, ha, r⟩ | ⟨it, ks, ha, r⟩
          · rcases keyD_rep kok ry with ⟨kk, rfl, rfl, _⟩ | ⟨kk, b, rfl, rfl, hb, it2⟩
            · refine ⟨a, _, rfl, .k ha (by rw [← r.length]; exact hz.2), fin _ (.inl ⟨_, upd_same, RepK.mv (.of_ext (.wr hT)) _ _ (r.put rv)⟩)⟩
            · rw [it] at it2; cases it2
          · rcases keyD_rep kok ry with ⟨kk, rfl, rfl, it2⟩ | ⟨kk, b, rfl, rfl, hb, _⟩
            · rw [it] at it2; cases it2
            · refine ⟨a, _, rfl, .t ha hb (by rw [← r.length]; exact hz.2), fin _ (.inr ⟨_, upd_same, RepT.mv (.of_ext (.wr hT)) _ _ (r.put rv)⟩)⟩
        · cases hsd
      refine (ps_dput (by omega) (pe_varR h1 h2 hd1 hd2) pe_w pe_w hs).w ?_
      refine ph1 _ fun v H1 st1 d O3 o3 hl3 e3 rv3 p => ⟨_, g2, ?_⟩
      obtain ⟨d1, k1, k2, k3⟩ := e3.v1 i a o3
      rw [g1] at k1; cases k1
      have hT : TO T0 O3 a := .inr ⟨i, o3⟩
      -- as it stands
      have plain : (∀ kd st2 d', ev ci ρ st1 = .ok (kd, st2) → setItemD (.dict kvs) kd d = .ok d' → (isTup kd = false ∧ ∃ ks, H1 a = some (.dK ks) ∧ RepK (TO T0 O3) H1 kvs ks) ∨ (isTup kd = true ∧ ∃ ks, H1 a = some (.dT ks) ∧ RepT (TO T0 O3) H1 kvs ks)) →
          wE X ei σ H1 fun y H3 => ∃ a' H4, V.ref a = .ref a' ∧ DPut H3 a' y v H4 ∧ D.nx σ H4 := fun hk' =>
        ph2 _ v H1 st1 d O3 o3 hl3 e3 rv3 p fun y H3 kd st2 d' hev e5 x5 hA rv5 ry hsd fin => hdput H3 O3 kd d d' v y o3 rv5 ry hsd fin (by
          have x6 : Ext (TO T0 O3) H1 H3 := x5.mono (TO.mono fun j b h => by
            rcases dropL_or (L := [i]) (O := O3) j with z | z
            · rw [← z]; exact h
            · rw [z] at h; cases h)
          rcases hk' kd st2 d' hev hsd with ⟨it, ks, ha, r⟩ | ⟨it, ks, ha, r⟩
          · exact .inl ⟨it, ks, by rw [hA]; exact ha, RepK.mv (.of_ext x6) _ _ r⟩
          · exact .inr ⟨it, ks, by rw [hA]; exact ha, RepT.mv (.of_ext x6) _ _ r⟩)
      have kOf : ∀ kd d', setItemD (.dict kvs) kd d = .ok d' → kindOk kvs kd = true := fun kd d' hsd => by
        have hsd : (if kindOk kvs kd = true ∧ kvs.length < sizeLine then R.ok (.dict (putD kvs kd d)) else .bad) = .ok d' := by
          cases kd <;> exact hsd
        split at hsd
        · rename_i hz; exact hz.1
        · cases hsd
      -- .. taken as the other kind
      have other : ∀ o, kvs = [] → Own1 (TO T0 O3) (upd H1 a o) (.dict []) a → (∀ kd st2 d', ev ci ρ st1 = .ok (kd, st2) → setItemD (.dict kvs) kd d = .ok d' → (isTup kd = false ∧ o = .dK []) ∨ (isTup kd = true ∧ o = .dT [])) →
          wE X ei σ (upd H1 a o) fun y H3 => ∃ a' H4, V.ref a = .ref a' ∧ DPut H3 a' y v H4 ∧ D.nx σ H4 := fun o hkv how hk' => by
        subst hkv
        have e3' := e3.write o3 how
        rw [set_self g1] at e3'
        exact ph2 _ v _ st1 d O3 o3 hl3 e3' (rv3.ext (.wr hT)) p fun y H3 kd st2 d' hev e5 x5 hA rv5 ry hsd fin => hdput H3 O3 kd d d' v y o3 rv5 ry hsd fin (by
          rw [upd_same] at hA
          rcases hk' kd st2 d' hev hsd with ⟨it, rfl⟩ | ⟨it, rfl⟩
          · exact .inl ⟨it, [], hA, by simp [RepK]⟩
          · exact .inr ⟨it, [], hA, by simp [RepT]⟩)
      rcases k3 with ⟨ks, ha, r⟩ | ⟨ks, ha, r⟩
      · by_cases hev : ∃ kd st2 d', ev ci ρ st1 = .ok (kd, st2) ∧ setItemD (.dict kvs) kd d = .ok d' ∧ isTup kd = true
        · obtain ⟨kd, st2, d', h1', h2', h3'⟩ := hev
          obtain ⟨rfl, rfl⟩ := r.kind (kOf kd d' h2') h3'
          refine .inr ⟨a, rfl, .inl ⟨ha, other _ rfl (.inr ⟨[], upd_same, by simp [RepT]⟩) fun kd2 st3 d2 h4 h5 => .inr ⟨?_, rfl⟩⟩⟩
          rw [h1'] at h4; cases h4; exact h3'
        · refine .inl (plain fun kd st2 d' h4 h5 => .inl ⟨?_, ks, ha, r⟩)
          cases q : isTup kd with
          | false => rfl
          | true => exact absurd ⟨kd, st2, d', h4, h5, q⟩ hev
      · by_cases hev : ∃ kd st2 d', ev ci ρ st1 = .ok (kd, st2) ∧ setItemD (.dict kvs) kd d = .ok d' ∧ isTup kd = false
        · obtain ⟨kd, st2, d', h1', h2', h3'⟩ := hev
          obtain ⟨rfl, rfl⟩ := r.kind (kOf kd d' h2') h3'
          refine .inr ⟨a, rfl, .inr ⟨ha, other _ rfl (.inl ⟨[], upd_same, by simp [RepK]⟩) fun kd2 st3 d2 h4 h5 => .inl ⟨?_, rfl⟩⟩⟩
          rw [h1'] at h4; cases h4; exact h3'
        · refine .inl (plain fun kd st2 d' h4 h5 => .inr ⟨?_, ks, ha, r⟩)
          cases q : isTup kd with
          | true => rfl
          | false => exact absurd ⟨kd, st2, d', h4, h5, q⟩ hev
    | none => exact g3.elim
    | bool _ => exact g3.elim
    | int _ => exact g3.elim
    | str _ => exact g3.elim
    | tuple _ => exact g3.elim
end
end Mir

set_option Elab.async false
set_option linter.all false
set_option maxRecDepth 100000
set_option maxHeartbeats 4000000
/-! Mir, part N: is this statement of the text that one of the language? By looking. -/
namespace Mir
open PySem PySem.Spec PyProof.Rows L2

structure LcOk (X : Cx) {S : Type} (k : SK S) (elt : E S) (tgt : Tg) (it : Mir.It S) (c : E S) (own : List (Str × Nat)) (eelt etg eiter : Expr) (ifs : List Expr) (scope : Scope) : Prop where
  hi : SI X k etg it eiter
  ok : BlkOk X.N X.env.scope scope own
  hf : okE eiter = true
  hown : ∀ i ∈ tgs tgt, i ∈ own.map (·.2)
  hds : ∀ p, k.slot = some p → p.1 ∉ own.map (·.2)
  ht : BlkE X scope fun X' => TgOk X' tgt etg
  hcc : BlkE X scope fun X' => (ifs = [] ∧ c = .bl true) ∨ ∃ e, ifs = [e] ∧ ST X' k c e
  he : BlkE X scope fun X' => SE X' k elt eelt
section
variable {S : Type} {k : SK S} {N : List Str} {ds : Option Nat}
theorem mt_lc {elt c : E S} {tgt : Tg} {it : Mir.It S} {own : List (Str × Nat)} {X : Cx} {sp : Scope} {e : Expr} (g : XG X k N ds sp) (nd : NeedE (gx X) k (.lc elt tgt it c own)) (h : mt N ds sp (.lc elt tgt it c own) e = true) :
    ∃ x tg iter ifs scope pos, e = .ListComp x [⟨tg, iter, ifs, 0⟩] scope pos ∧ LcOk X k elt tgt it c own x tg iter ifs scope := by
  simp only [mt] at h
  split at h
  · rename_i x tg iter ifs a scope pos
    simp only [Bool.and_eq_true, decide_eq_true_eq, List.all_eq_true] at h
    obtain ⟨⟨⟨⟨⟨⟨⟨rfl, h1⟩, h2⟩, h3⟩, h4⟩, h5⟩, h6⟩, h7⟩ := h
    obtain ⟨qi, oi⟩ := mtI_ok it X sp tg _ g nd.1 h1
    refine ⟨x, tg, iter, ifs, scope, pos, rfl, ⟨qi, by rw [g.n, g.sc]; exact blkOk_by h2, oi, fun i hi => by simpa using h3 i hi, fun p hp => ?_, fun s H C cl fp => tgB_of (fun i e q => tgN_blk g.n q s H C cl fp) h5, fun s H C cl fp => ?_, fun s H C cl fp => ?_⟩⟩
    · have hi : ds = some p.1 := by rw [← g.slot, hp]; rfl
      rw [hi] at h4
      simpa using h4
    · split at h6
      · split at h6
        · exact .inl ⟨rfl, rfl⟩
        · cases h6
      · exact .inr ⟨_, rfl, (mt_ok c _ _ _ (blk_g g s H C cl fp) nd.2.1 h6).t⟩
      · cases h6
    · exact (mt_ok elt _ _ _ (blk_g g s H C cl fp) nd.2.2 h7).e
  · cases h
/-- forms that make a thing anew -/
def freshE : E S → Bool
  | .lst _ => true
  | .dict0 => true
  | .blt f _ => freshB f
  | .lc .. => true
  | .op1 f _ => fr1 f
  | _ => false
theorem LcOk.sf {elt c : E S} {tgt : Tg} {it : Mir.It S} {own : List (Str × Nat)} {X : Cx} {eelt etg eiter : Expr} {ifs : List Expr} {scope : Scope} {pos : Pos} (nd : X.N.Nodup) (hc : X.calm = true) (h : LcOk X k elt tgt it c own eelt etg eiter ifs scope) :
    SF X k (.lc elt tgt it c own) (.ListComp eelt [⟨etg, eiter, ifs, 0⟩] scope pos) := fun T ρ st σ H Q W n o t p =>
  (pe_lc (g := lcG X scope etg) (tt := lcT X scope ifs) (te := lcE X scope eelt) hc nd pi_w h.ok lcG_ok lcT_ok lcE_ok (fold_ok h.hf _)).w (lc_read nd hc h.hi h.ok h.hf h.hown h.hds h.ht h.hcc h.he n o t p)
theorem mt_sf {c : E S} {X : Cx} {sp : Scope} {e : Expr} (g : XG X k N ds sp) (nd : NeedE (gx X) k c) (hf : freshE c = true) (h : mt N ds sp c e = true) : SF X k c e := by
  cases c with
  | lst es =>
    simp only [mt] at h
    split at h
    · exact sf_lst (mts_ok es X sp _ g nd h).1
    · cases h
  | dict0 =>
    simp only [mt] at h
    split at h
    · exact sf_dict0
    · cases h
  | blt f es =>
    simp only [mt] at h
    split at h
    · simp only [Bool.and_eq_true, decide_eq_true_eq] at h
      obtain ⟨⟨h1, h2⟩, h3⟩ := h
      split at h1
      · rename_i n ty hb
        simp only [Bool.and_eq_true, decide_eq_true_eq] at h1
        obtain ⟨rfl, h1⟩ := h1
        obtain ⟨h4, h5⟩ := glB_ok g.sc h2
        obtain ⟨a1, a2⟩ := mts_ok es X sp _ g nd h3
        exact sf_blt g.room hf hb h4 (gl_free g h1) a1 a2
      · cases h1
    · cases h
  | lc elt tgt it c own =>
    obtain ⟨x, tg, iter, ifs, scope, pos, rfl, q⟩ := mt_lc g nd h
    exact q.sf (by rw [g.n]; exact g.nd) g.calm
  | op1 f a =>
    simp only [mt] at h
    split at h
    · rename_i x hx
      rw [Bool.and_eq_true] at h
      obtain ⟨i, p, o⟩ := m1_ok g hx h.1
      exact sf_op1 i hf (mt_ok a X sp _ g nd h.2).e
    · cases h
  | _ => cases hf
/-- several values, some of them made anew -/
def mtA (N : List Str) (ds : Option Nat) (sc : Scope) : List Bool → Es S → List Expr → Bool
  | [], .nil, [] => true
  | b :: ks, .cons c r, e :: es => (!b || freshE c) && mt N ds sc c e && mtA N ds sc ks r es
  | _, _, _ => false
theorem mtA_ok {X : Cx} {sp : Scope} (g : XG X k N ds sp) : ∀ (ks : List Bool) (c : Es S) (es : List Expr), NeedEs (gx X) k c → mtA N ds sp ks c es = true → SAF X k ks c es
  | [], .nil, [], _, _ => saf_nil
  | b :: ks, .cons c r, e :: es, nd, h => by
    simp only [mtA, Bool.and_eq_true, Bool.or_eq_true, Bool.not_eq_true'] at h
    obtain ⟨⟨h1, h2⟩, h3⟩ := h
    have q := mt_ok c X sp e g nd.1 h2
    have r' := mtA_ok g ks r es nd.2 h3
    cases b with
    | false => exact saf_cons q.e r' q.ok
    | true => exact saf_consF (mt_sf g nd.1 (h1.elim (fun z => nomatch z) id) h2) r' q.ok
  | [], .nil, _ :: _, _, h => nomatch h
  | [], .cons _ _, _, _, h => nomatch h
  | _ :: _, .nil, _, _, h => nomatch h
  | _ :: _, .cons _ _, [], _, h => nomatch h

/-! ### statements -/
def slotB (ds : Option Nat) (is : List Nat) : Bool := match ds with
  | some p => !is.contains p
  | none => true
def subB (a b : List Nat) : Bool := a.all b.contains
def subO (a : List Nat) : Option (List Nat) → Bool
  | none => true
  | some b => subB a b
def rangeB : Mir.It S → Bool
  | .range1 _ => true
  | .range2 _ _ => true
  | _ => false
def isLc : E S → Bool
  | .lc .. => true
  | _ => false
def isTupE : Expr → Bool
  | .Tuple .. => true
  | _ => false
def compB : Expr → Bool
  | .ListComp .. => true
  | .SetComp .. => true
  | .DictComp .. => true
  | _ => false
def locN (sc : Scope) (x : Str) : Bool := decide (sc.names.lookup x = some .local)
def parB (N : List Str) (sc : Scope) (is : List Nat) (ts vs : List Expr) : Bool := match swp sc ts vs with
  | some none => tgNs N sc is ts
  | some (some names) => match is, ts with
    | [i, j], [.Name x _, .Name y _] => decide (N[i]? = some x) && decide (N[j]? = some y) && locN sc x && locN sc y && decide (names = [x, y])
    | [i, j, l], [.Name x _, .Name y _, .Name z _] => decide (N[i]? = some x) && decide (N[j]? = some y) && decide (N[l]? = some z) && locN sc x && locN sc y && locN sc z && decide (names = [x, y, z])
    | _, _ => false
  | none => false
def nodupB : List Nat → Bool
  | [] => true
  | i :: is => !is.contains i && nodupB is
theorem nodupB_ok : ∀ {is : List Nat}, nodupB is = true → is.Nodup
  | [], _ => .nil
  | i :: is, h => by
    simp only [nodupB, Bool.and_eq_true, Bool.not_eq_true'] at h
    refine List.nodup_cons.mpr ⟨fun z => ?_, nodupB_ok h.2⟩
    rw [List.contains_iff_mem.mpr z] at h
    cases h.1
def setB (sc : Scope) (e : Expr) (x : Str) (p : Pos) (own : Bool) (c : E S) : Bool := if swB sc e x p then isLc c && locN sc x else !own || freshE c
mutual
def chS (N : List Str) (ds : Option Nat) (sc : Scope) (lv ll : List Nat) : St S → Stmt → Option (Option (List Nat))
  | .set i own im c, s => match s with
    | .Assign [.Name x p'] e _ => if decide (N[i]? = some x) && locB sc x && slotB ds [i] && mt N ds sc c e && setB sc e x p' own c then some (some (lvPut im (fv c) [i] [own] lv)) else none
    | _ => none
  | .asg is im c, s => match s with
    | .Assign [.Tuple ts _ _] e _ => if tgNs N sc is ts && nodupB is && slotB ds is && mt N ds sc c e && !isTupE e then some (some (lvPut im (fv c) is [] lv)) else none
    | _ => none
  | .par is ks im cs, s => match s with
    | .Assign [.Tuple ts _ _] (.Tuple vs _ _) _ => if parB N sc is ts vs && nodupB is && slotB ds is && mtA N ds sc ks cs vs && decide (esLen cs = is.length) && decide (is.length ≤ 8) then some (some (lvPut im (fvs cs) is ks lv)) else none
    | _ => none
  | .app i im c, s => match s with
    | .Expr (.Call (.Attribute (.Name x _) nm p2) [e] [] p3) _ => if decide (nm = ("append" : Str)) && decide (N[i]? = some x) && visB sc x && plainName x && mt N ds sc c e && lv.contains i && (im || !(fv c).contains i) && (p2.endLine == p3.line) then some (some (lv.filter fun j => im || !(fv c).contains j)) else none
    | _ => none
  | .setItem i im ci c, s => match s with
    | .Assign [.Subscript (.Name x _) ei _] e _ => if decide (N[i]? = some x) && visB sc x && plainName x && mt N ds sc c e && mt N ds sc ci ei && lv.contains i && (im || !(fv c).contains i) then some (some (lv.filter fun j => im || !(fv c).contains j)) else none
    | _ => none
  | .aug i op c, s => match s with
    | .AugAssign (.Name x _) o e _ => if decide (op = o) && decide (N[i]? = some x) && locB sc x && slotB ds [i] && mt N ds sc c e then some (some (lvPut true (fv c) [i] [] lv)) else none
    | _ => none
  | .expr c, s => match s with
    | .Expr e _ => if mt N ds sc c e && !compB e then some (some lv) else none
    | _ => none
  | .ret c, s => match s with
    | .Return (some e) _ => if mt N ds sc c e then some none else none
    | _ => none
  | .retN, s => match s with
    | .Return none _ => some none
    | _ => none
  | .ite c a b, s => match s with
    | .If e sa sb _ => if mt N ds sc c e then (match chSs N ds sc lv ll a sa, chSs N ds sc lv ll b sb with
      | some la, some lb => some (meet la lb)
      | _, _ => none) else none
    | _ => none
  | .for_ li tg it body, s => match s with
    | .For etg eit sb [] _ => if mtI N ds sc it etg eit && tgB N sc tg etg && nodupB (tgs tg) && slotB ds (tgs tg) && (tgs tg).all (fun i => !li.contains i) && subB li lv && (rangeB it || li.all fun i => !(fvI it).contains i) then (match chSs N ds sc li li body sb with
      | some lb => if subO li lb then some (some li) else none
      | none => none) else none
    | _ => none
  | .while_ li _ c body, s => match s with
    | .While e sb [] _ => if mt N ds sc c e && subB li lv then (match chSs N ds sc li li body sb with
      | some lb => if subO li lb then some (some li) else none
      | none => none) else none
    | _ => none
  | .brk, s => match s with
    | .Break _ => if subB ll lv then some none else none
    | _ => none
  | .cnt, s => match s with
    | .Continue _ => if subB ll lv then some none else none
    | _ => none
  | .pass, s => match s with
    | .Pass _ => some (some lv)
    | .Expr (.Constant (.str _) _ _) _ => some (some lv)
    | _ => none
  | .raise_ x, s => match s with
    | .Raise (some (.Call (.Name y _) [.Constant (.str _) _ _] [] _)) none _ => if decide (x = y) && glB sc y then some none else none
    | _ => none
def chSs (N : List Str) (ds : Option Nat) (sc : Scope) (lv ll : List Nat) : Sts S → List Stmt → Option (Option (List Nat))
  | .nil, ss => match ss with
    | [] => some (some lv)
    | _ => none
  | .cons a r, ss => match ss with
    | s :: rest => match chS N ds sc lv ll a s with
      | some (some l) => chSs N ds sc l ll r rest
      | some none => some none
      | none => none
    | _ => none
end
mutual
def NeedS (G : GX) (k : SK S) : St S → Prop
  | .set _ _ _ c => NeedE G k c
  | .asg _ _ c => NeedE G k c
  | .par _ _ _ cs => NeedEs G k cs
  | .app _ _ c => NeedE G k c
  | .setItem _ _ ci c => NeedE G k ci ∧ NeedE G k c
  | .aug _ _ c => NeedE G k c
  | .expr c => NeedE G k c
  | .ret c => NeedE G k c
  | .ite c a b => NeedE G k c ∧ NeedSs G k a ∧ NeedSs G k b
  | .for_ _ _ it body => NeedI G k it ∧ NeedSs G k body
  | .while_ _ _ c body => NeedE G k c ∧ NeedSs G k body
  | .raise_ x => RaiseOk G x
  | .retN => True | .brk => True | .cnt => True | .pass => True
def NeedSs (G : GX) (k : SK S) : Sts S → Prop
  | .nil => True
  | .cons a r => NeedS G k a ∧ NeedSs G k r
end
structure XS (X : Cx) (k : SK S) (N : List Str) (ds : Option Nat) (sp : Scope) : Prop extends XG X k N ds sp where
  passes : PassesOwn (model X.prog X.w) X.A X.env X.xe
  fn : ∀ x, X.fn x = true
theorem slotB_ok {X : Cx} {sp : Scope} (g : XG X k N ds sp) {is : List Nat} (h : slotB ds is = true) : ∀ p, k.slot = some p → p.1 ∉ is := fun p hp => by
  have hi : ds = some p.1 := by rw [← g.slot, hp]; rfl
  rw [hi] at h
  simpa [slotB] using h
theorem subB_ok {a b : List Nat} (h : subB a b = true) : ∀ i ∈ a, i ∈ b := fun i hi => by
  unfold subB at h
  rw [List.all_eq_true] at h
  simpa using h i hi
theorem subO_ok {a : List Nat} {o : Option (List Nat)} (h : subO a o = true) : ∀ l, o = some l → ∀ i ∈ a, i ∈ l := fun l hl i hi => by
  subst hl
  exact subB_ok h i hi
theorem locB_Loc {X : Cx} {sp : Scope} {x : Str} (hs : X.env.scope = sp) (h : locB sp x = true) : L2.Loc X.env.scope x := by
  rw [hs]; exact locB_ok h
theorem locN_ok {X : Cx} {sp : Scope} {x : Str} (hs : X.env.scope = sp) (h : locN sp x = true) : X.env.scope.names.lookup x = some .local := by
  rw [hs]; simpa [locN] using h
theorem tgNs_lt {X : Cx} : ∀ {is : List Nat} {es : List Expr}, TgNs X is es → ∀ i ∈ is, i < X.N.length
  | [], [], _, i, hi => by simp at hi
  | i :: is, e :: es, h, j, hj => by
    rcases List.mem_cons.mp hj with rfl | hj
    · obtain ⟨x, pos, _, q, _⟩ := h.1
      exact (List.getElem?_eq_some_iff.mp q).1
    · exact tgNs_lt h.2 j hj
  | [], _ :: _, h, _, _ => h.elim
  | _ :: _, [], h, _, _ => h.elim
theorem tgOk_lt {X : Cx} {tg : Tg} {e : Expr} (h : TgOk X tg e) : ∀ i ∈ tgs tg, i < X.N.length := by
  cases tg with
  | nm i =>
    intro j hj
    have : j = i := by simpa [tgs] using hj
    subst this
    obtain ⟨x, pos, _, q, _⟩ := h
    exact (List.getElem?_eq_some_iff.mp q).1
  | tup is =>
    cases e with
    | Tuple es _ _ => exact tgNs_lt h
    | _ => exact (show False from h).elim
theorem at_lt {N : List Str} {i : Nat} {x : Str} (h : N[i]? = some x) : i < N.length := (List.getElem?_eq_some_iff.mp h).1
theorem sw_else {env : PySem.Env} {e tg : Expr} {l : Nat} (h : ∀ x p, tg ≠ .Name x p) : swapsWith e (some tg) l env = pure false := by
  unfold swapsWith
  cases e <;> first | rfl | (cases tg <;> first | rfl | exact absurd rfl (h _ _))
theorem sw_none {env : PySem.Env} {e : Expr} {l : Nat} (h : compB e = false) : swapsWith e none l env = pure false := by
  cases e <;> first | rfl | cases h
theorem swapped_else {env : PySem.Env} {ts : List Expr} {a : Nat} {b : Pos} {e : Expr} (h : isTupE e = false) : swappedStores [.Tuple ts a b] e env = pure none := by
  cases e <;> first | rfl | cases h
theorem run_set {i : Nat} {own im : Bool} {c : E S} (ρ : Env) (st : S) : run (.set i own im c) ρ st = bnd ((fun ρ => bnd (ev c ρ) fun d => ret [d]) ρ) (fun ds => if ds.length = [i].length ∧ (im = false ∨ immKs [own] ds = true) then ret (.nx (setAll [i] ds ρ)) else lft .bad) st := by
  show bnd (ev c ρ) (fun d => if im = false ∨ immK own d = true then ret (Fl.nx (ρ.set i (some d))) else lft .bad) st = _
  unfold bnd R.bind
  dsimp only
  cases ev c ρ st with
  | ok a =>
    have e : ([a.1].length = [i].length ∧ (im = false ∨ immKs [own] [a.1] = true)) = (im = false ∨ immK own a.1 = true) := by simp [immKs]
    show (if im = false ∨ immK own a.1 = true then ret (Fl.nx (ρ.set i (some a.1))) else lft .bad) a.2 = (if [a.1].length = [i].length ∧ (im = false ∨ immKs [own] [a.1] = true) then ret (Fl.nx (setAll [i] [a.1] ρ)) else lft .bad) a.2
    by_cases h : im = false ∨ immK own a.1 = true
    · rw [if_pos h, if_pos (by rw [e]; exact h)]; rfl
    · rw [if_neg h, if_neg (by rw [e]; exact h)]
  | exc x l => rfl
  | bad => rfl
theorem immKs_nil : ∀ ds : List PyData, immKs [] ds = imm.go ds
  | [] => rfl
  | d :: ds => by rw [immKs, imm.go, immKs_nil ds]
theorem run_asg {is : List Nat} {im : Bool} {c : E S} (ρ : Env) (st : S) : run (.asg is im c) ρ st = bnd ((fun ρ => bnd (ev c ρ) fun d => lft (tupR is.length d)) ρ) (fun ds => if ds.length = is.length ∧ (im = false ∨ immKs [] ds = true) then ret (.nx (setAll is ds ρ)) else lft .bad) st := by
  show bnd (ev c ρ) (fun d => if im = false ∨ imm d = true then bnd (lft (asg (.tup is) d ρ)) fun ρ' => ret (Fl.nx ρ') else lft .bad) st = _
  unfold bnd R.bind
  dsimp only
  cases ev c ρ st with
  | exc x l => rfl
  | bad => rfl
  | ok a =>
    dsimp only
    cases h : a.1 with
    | tuple ds =>
      by_cases hl : ds.length = is.length
      · by_cases hi : im = false ∨ imm.go ds = true
        · have hi' : im = false ∨ imm (.tuple ds) = true := hi
          simp [tupR, hl, hi, hi', immKs_nil, lft, R.bind, asg, ret]
        · have hi' : ¬ (im = false ∨ imm (.tuple ds) = true) := hi
          rw [if_neg hi']
          simp [tupR, hl, hi, immKs_nil, lft, R.bind]
      · by_cases hi' : im = false ∨ imm (.tuple ds) = true
        · rw [if_pos hi']; simp [tupR, hl, lft, R.bind, asg]
        · rw [if_neg hi']; simp [tupR, hl, lft, R.bind]
    | none => by_cases hi' : im = false ∨ imm .none = true <;> simp [hi', tupR, lft, R.bind, asg]
    | bool b => by_cases hi' : im = false ∨ imm (.bool b) = true <;> simp [hi', tupR, lft, R.bind, asg]
    | int b => by_cases hi' : im = false ∨ imm (.int b) = true <;> simp [hi', tupR, lft, R.bind, asg]
    | str b => by_cases hi' : im = false ∨ imm (.str b) = true <;> simp [hi', tupR, lft, R.bind, asg]
    | list b => by_cases hi' : im = false ∨ imm (.list b) = true <;> simp [hi', tupR, lft, R.bind, asg]
    | dict b => by_cases hi' : im = false ∨ imm (.dict b) = true <;> simp [hi', tupR, lft, R.bind, asg]

mutual
theorem chS_ok {X : Cx} {sp : Scope} (g : XS X k N ds sp) : ∀ (c : St S) (lv ll : List Nat) (s : Stmt) (lv' : Option (List Nat)), NeedS (gx X) k c → chS N ds sp lv ll c s = some lv' → SS X k lv ll c s lv'
  | .set i own im c, lv, ll, s, lv', nd, h => by
    simp only [chS] at h
    split at h
    · rename_i x p' e pos
      split at h
      · rename_i hz
        cases h
        simp only [Bool.and_eq_true, decide_eq_true_eq] at hz
        obtain ⟨⟨⟨⟨h1, h2⟩, h3⟩, h4⟩, h5⟩ := hz
        have hN : X.N[i]? = some x := by rw [g.n]; exact h1
        have hnd : X.N.Nodup := by rw [g.n]; exact g.nd
        refine ss_put (m := fun ρ => bnd (ev c ρ) fun d => ret [d]) ?_ (by simp) (fun j hj => by simp at hj; subst hj; exact at_lt hN) (slotB_ok g.toXG h3) run_set
        unfold setB at h5
        split at h5
        · rename_i hsw
          rw [Bool.and_eq_true] at h5
          cases c with
          | lc elt tgt it c own' =>
            obtain ⟨x', tg, iter, ifs, scope, pos', rfl, q⟩ := mt_lc g.toXG nd h4
            exact sv_lc hnd g.calm q.hi q.ok q.hf q.hown q.hds q.ht q.hcc q.he hN (locN_ok g.sc h5.2) (by rw [swB_ok g.sc, hsw])
          | _ => cases h5.1
        · rename_i hsw
          have hsw : swB sp e x p' = false := by simpa using hsw
          have sw : swapsWith e (some (.Name x p')) pos.line X.env = pure false := by rw [swB_ok g.sc, hsw]
          cases own with
          | false => exact sv_set (mt_ok c X sp e g.toXG nd h4).e hnd hN (locB_Loc g.sc h2) (g.fn x) sw
          | true => exact sv_setF (mt_sf g.toXG nd (by simpa using h5) h4) hnd hN (locB_Loc g.sc h2) (g.fn x) sw
      · cases h
    · cases h
  | .asg is im c, lv, ll, s, lv', nd, h => by
    simp only [chS] at h
    split at h
    · rename_i ts j pt e pos
      split at h
      · rename_i hz
        cases h
        simp only [Bool.and_eq_true, decide_eq_true_eq, Bool.not_eq_true'] at hz
        obtain ⟨⟨⟨⟨h1, h2⟩, h3⟩, h4⟩, h5⟩ := hz
        have tg := tgNs_of (X := X) (fun i e q => tgN_def g.n g.sc g.fn q) h1
        exact ss_put (m := fun ρ => bnd (ev c ρ) fun d => lft (tupR is.length d)) (sv_asg (mt_ok c X sp e g.toXG nd h4).e (by rw [g.n]; exact g.nd) g.calm tg (show swapsWith e (some (.Tuple ts j pt)) pos.line X.env = pure false from sw_else fun x p z => by cases z) (swapped_else h5)) (nodupB_ok h2) (tgNs_lt tg) (slotB_ok g.toXG h3) run_asg
      · cases h
    · cases h
  | .par is ks im cs, lv, ll, s, lv', nd, h => by
    simp only [chS] at h
    split at h
    · rename_i ts kt pt vs k2 pt2 pos
      split at h
      · rename_i hz
        cases h
        simp only [Bool.and_eq_true, decide_eq_true_eq] at hz
        obtain ⟨⟨⟨⟨⟨h1, h2⟩, h3⟩, h4⟩, h5⟩, h6⟩ := hz
        have hnd : X.N.Nodup := by rw [g.n]; exact g.nd
        have hd := nodupB_ok h2
        have saf := mtA_ok g.toXG ks cs vs nd h4
        have hz8 : is.length ≤ sizeLine := by rw [sizeLine_eq]; omega
        unfold parB at h1
        split at h1
        · rename_i hsw
          have tg := tgNs_of (X := X) (fun i e q => tgN_def g.n g.sc g.fn q) h1
          exact ss_put (m := fun ρ => evs cs ρ) (sv_parT saf h5 hz8 hnd g.calm tg (swp_ok g.sc hsw)) hd (tgNs_lt tg) (slotB_ok g.toXG h3) (fun ρ st => rfl)
        · rename_i names hsw
          split at h1
          · rename_i i j x px y py
            simp only [Bool.and_eq_true, decide_eq_true_eq] at h1
            obtain ⟨⟨⟨⟨a1, a2⟩, a3⟩, a4⟩, rfl⟩ := h1
            have hi : X.N[i]? = some x := by rw [g.n]; exact a1
            have hj : X.N[j]? = some y := by rw [g.n]; exact a2
            have hij : i ≠ j := by
              intro z; subst z; simp at hd
            have hvs : ∃ a b, vs = [a, b] := by
              have : vs.length = 2 := by
                have e1 : ∀ (ks : List Bool) (cs : Es S) (vs : List Expr), mtA N ds sp ks cs vs = true → vs.length = esLen cs := by
                  intro ks
                  induction ks with
                  | nil => intro cs vs h; cases cs <;> cases vs <;> first | rfl | cases h
                  | cons b ks ih =>
                    intro cs vs h
                    cases cs with
                    | nil => cases vs <;> cases h
                    | cons c r =>
                      cases vs with
                      | nil => cases h
                      | cons v vs =>
                        simp only [mtA, Bool.and_eq_true] at h
                        show vs.length + 1 = esLen r + 1
                        rw [ih r vs h.2]
                rw [e1 _ _ _ h4, h5]; rfl
              match vs, this with
              | [a, b], _ => exact ⟨a, b, rfl⟩
            obtain ⟨a, b, rfl⟩ := hvs
            exact ss_put (m := fun ρ => evs cs ρ) (sv_par2 saf h5 hnd g.calm hi hj hij (locN_ok g.sc a3) (locN_ok g.sc a4) (swp_ok g.sc hsw)) hd (fun l hl => by simp at hl; rcases hl with rfl | rfl; exact at_lt hi; exact at_lt hj) (slotB_ok g.toXG h3) (fun ρ st => rfl)
          · rename_i i j l x px y py z pz
            simp only [Bool.and_eq_true, decide_eq_true_eq] at h1
            obtain ⟨⟨⟨⟨⟨⟨a1, a2⟩, a3⟩, a4⟩, a5⟩, a6⟩, rfl⟩ := h1
            have hi : X.N[i]? = some x := by rw [g.n]; exact a1
            have hj : X.N[j]? = some y := by rw [g.n]; exact a2
            have hl : X.N[l]? = some z := by rw [g.n]; exact a3
            have hd' : i ≠ j ∧ i ≠ l ∧ j ≠ l := by
              simp at hd; omega
            have hvs : ∃ a b c, vs = [a, b, c] := by
              have : vs.length = 3 := by
                have e1 : ∀ (ks : List Bool) (cs : Es S) (vs : List Expr), mtA N ds sp ks cs vs = true → vs.length = esLen cs := by
                  intro ks
                  induction ks with
                  | nil => intro cs vs h; cases cs <;> cases vs <;> first | rfl | cases h
                  | cons b ks ih =>
                    intro cs vs h
                    cases cs with
                    | nil => cases vs <;> cases h
                    | cons c r =>
                      cases vs with
                      | nil => cases h
                      | cons v vs =>
                        simp only [mtA, Bool.and_eq_true] at h
                        show vs.length + 1 = esLen r + 1
                        rw [ih r vs h.2]
                rw [e1 _ _ _ h4, h5]; rfl
              match vs, this with
              | [a, b, c], _ => exact ⟨a, b, c, rfl⟩
            obtain ⟨a, b, c, rfl⟩ := hvs
            exact ss_put (m := fun ρ => evs cs ρ) (sv_par3 saf h5 hnd g.calm hi hj hl hd'.1 hd'.2.1 hd'.2.2 (locN_ok g.sc a4) (locN_ok g.sc a5) (locN_ok g.sc a6) (swp_ok g.sc hsw)) hd (fun m hm => by simp at hm; rcases hm with rfl | rfl | rfl; exact at_lt hi; exact at_lt hj; exact at_lt hl) (slotB_ok g.toXG h3) (fun ρ st => rfl)
          · cases h1
        · cases h1
      · cases h
    · cases h
  | .app i im c, lv, ll, s, lv', nd, h => by
    simp only [chS] at h
    split at h
    · rename_i x p1 nm p2 e p3 pos
      split at h
      · rename_i hz
        cases h
        simp only [Bool.and_eq_true, decide_eq_true_eq, Bool.or_eq_true, Bool.not_eq_true', List.contains_iff_mem] at hz
        obtain ⟨⟨⟨⟨⟨⟨⟨rfl, h1⟩, h2⟩, h3⟩, h4⟩, h5⟩, h6⟩, h7⟩ := hz
        obtain ⟨h8, h9⟩ := plainName_ok h3
        have q := mt_ok c X sp e g.toXG nd h4
        refine ss_app q.e q.ok (by rw [g.n]; exact h1) (visB_ok g.sc h2) h8 h9 h5 (h6.imp id fun z w => ?_) h7
        rw [List.contains_iff_mem.mpr w] at z; cases z
      · cases h
    · cases h
  | .setItem i im ci c, lv, ll, s, lv', nd, h => by
    simp only [chS] at h
    split at h
    · rename_i x p1 ei p2 e pos
      split at h
      · rename_i hz
        cases h
        simp only [Bool.and_eq_true, decide_eq_true_eq, Bool.or_eq_true, Bool.not_eq_true', List.contains_iff_mem] at hz
        obtain ⟨⟨⟨⟨⟨⟨h1, h2⟩, h3⟩, h4⟩, h5⟩, h6⟩, h7⟩ := hz
        obtain ⟨h8, h9⟩ := plainName_ok h3
        have q := mt_ok c X sp e g.toXG nd.2 h4
        have qi := mt_ok ci X sp ei g.toXG nd.1 h5
        refine ss_setItem g.room q.e qi.e qi.ok (by rw [g.n]; exact h1) (visB_ok g.sc h2) h8 h9 h6 (h7.imp id fun z w => ?_) (fun v => ?_) (sw_else fun x p z => by cases z)
        · rw [List.contains_iff_mem.mpr w] at z; cases z
        · have := qi.ok
          cases ei <;> first | rfl | cases this
      · cases h
    · cases h
  | .aug i op c, lv, ll, s, lv', nd, h => by
    simp only [chS] at h
    split at h
    · rename_i x p1 o e pos
      split at h
      · rename_i hz
        cases h
        simp only [Bool.and_eq_true, decide_eq_true_eq] at hz
        obtain ⟨⟨⟨⟨rfl, h1⟩, h2⟩, h3⟩, h4⟩ := hz
        refine ss_aug (mt_ok c X sp e g.toXG nd h4).e (by rw [g.n]; exact g.nd) (by rw [g.n]; exact h1) (locB_Loc g.sc h2) (g.fn x) fun p hp => ?_
        have := slotB_ok g.toXG h3 p hp
        simpa using this
      · cases h
    · cases h
  | .expr c, lv, ll, s, lv', nd, h => by
    simp only [chS] at h
    split at h
    · rename_i e pos
      split at h
      · rename_i hz
        cases h
        simp only [Bool.and_eq_true, Bool.not_eq_true'] at hz
        exact ss_expr (mt_ok c X sp e g.toXG nd hz.1).e (sw_none hz.2)
      · cases h
    · cases h
  | .ret c, lv, ll, s, lv', nd, h => by
    simp only [chS] at h
    split at h
    · rename_i e pos
      split at h
      · rename_i hz
        cases h
        exact ss_ret (mt_ok c X sp e g.toXG nd hz).e
      · cases h
    · cases h
  | .retN, lv, ll, s, lv', nd, h => by
    simp only [chS] at h
    split at h
    · cases h
      exact ss_retN
    · cases h
  | .ite c a b, lv, ll, s, lv', nd, h => by
    simp only [chS] at h
    split at h
    · rename_i e sa sb pos
      split at h
      · rename_i hz
        split at h
        · rename_i la lb h1 h2
          cases h
          exact ss_ite (mt_ok c X sp e g.toXG nd.1 hz).t (chSs_ok g a lv ll sa la nd.2.1 h1) (chSs_ok g b lv ll sb lb nd.2.2 h2)
        · cases h
      · cases h
    · cases h
  | .for_ li tg it body, lv, ll, s, lv', nd, h => by
    simp only [chS] at h
    split at h
    · rename_i etg eit sb pos
      split at h
      · rename_i hz
        split at h
        · rename_i lb hb
          split at h
          · rename_i hlb
            cases h
            simp only [Bool.and_eq_true] at hz
            obtain ⟨⟨⟨⟨⟨⟨h1, h2⟩, h3⟩, h4⟩, h5⟩, h6⟩, h7⟩ := hz
            have hnd : X.N.Nodup := by rw [g.n]; exact g.nd
            have tgo := tgB_of (X := X) (fun i e q => tgN_def g.n g.sc g.fn q) h2
            have qb := chSs_ok g body li li sb lb nd.2 hb
            obtain ⟨qi, oi⟩ := mtI_ok it X sp etg eit g.toXG nd.1 h1
            have h5' : ∀ i ∈ tgs tg, i ∉ li := fun i hi z => by
              rw [List.all_eq_true] at h5
              have := h5 i hi
              rw [List.contains_iff_mem.mpr z] at this
              cases this
            by_cases hr : rangeB it = true
            · have sir : SIr X k etg it eit := by
                cases it with
                | range1 a =>
                  simp only [mtI] at h1
                  split at h1
                  · simp only [Bool.and_eq_true, decide_eq_true_eq] at h1
                    obtain ⟨⟨rfl, a2⟩, a3⟩ := h1
                    have q := mt_ok a X sp _ g.toXG nd.1 a3
                    exact sir_range1 (glB_ok g.sc a2).1 (gl_free g.toXG (n := "range") (by decide)) q.e q.ok
                  · cases h1
                | range2 a b =>
                  simp only [mtI] at h1
                  split at h1
                  · simp only [Bool.and_eq_true, decide_eq_true_eq] at h1
                    obtain ⟨⟨⟨rfl, a2⟩, a3⟩, a4⟩ := h1
                    have q := mt_ok a X sp _ g.toXG nd.1.1 a3
                    have q2 := mt_ok b X sp _ g.toXG nd.1.2 a4
                    exact sir_range2 (glB_ok g.sc a2).1 (gl_free g.toXG (n := "range") (by decide)) q.e q2.e q.ok q2.ok
                  · cases h1
                | _ => cases hr
              exact ss_forR g.passes hnd g.calm sir oi tgo qb (subB_ok h6) (subO_ok hlb) h5' (tgOk_lt tgo) (slotB_ok g.toXG h4) (nodupB_ok h3)
            · rw [Bool.or_eq_true] at h7
              rcases h7 with h7 | h7
              · exact absurd h7 hr
              · refine ss_for g.passes hnd g.calm qi oi tgo qb (fun i hi => ⟨subB_ok h6 i hi, fun z => ?_⟩) (subO_ok hlb) h5' (tgOk_lt tgo) (slotB_ok g.toXG h4) (nodupB_ok h3)
                rw [List.all_eq_true] at h7
                have := h7 i hi
                rw [List.contains_iff_mem.mpr z] at this
                cases this
          · cases h
        · cases h
      · cases h
    · cases h
  | .while_ li n c body, lv, ll, s, lv', nd, h => by
    simp only [chS] at h
    split at h
    · rename_i e sb pos
      split at h
      · rename_i hz
        split at h
        · rename_i lb hb
          split at h
          · rename_i hlb
            cases h
            rw [Bool.and_eq_true] at hz
            exact ss_while g.passes (mt_ok c X sp e g.toXG nd.1 hz.1).t (chSs_ok g body li li sb lb nd.2 hb) (subB_ok hz.2) (subO_ok hlb)
          · cases h
        · cases h
      · cases h
    · cases h
  | .brk, lv, ll, s, lv', nd, h => by
    simp only [chS] at h
    split at h
    · split at h
      · rename_i hz
        cases h
        exact ss_brk (subB_ok hz)
      · cases h
    · cases h
  | .cnt, lv, ll, s, lv', nd, h => by
    simp only [chS] at h
    split at h
    · split at h
      · rename_i hz
        cases h
        exact ss_cnt (subB_ok hz)
      · cases h
    · cases h
  | .pass, lv, ll, s, lv', nd, h => by
    simp only [chS] at h
    split at h
    · cases h; exact ss_pass
    · cases h; exact ss_doc
    · cases h
  | .raise_ x, lv, ll, s, lv', nd, h => by
    simp only [chS] at h
    split at h
    · split at h
      · rename_i hz
        cases h
        simp only [Bool.and_eq_true, decide_eq_true_eq] at hz
        obtain ⟨rfl, hz⟩ := hz
        obtain ⟨h1, h2⟩ := glB_ok g.sc hz
        exact ss_raise g.calm nd h1 h2
      · cases h
    · cases h
theorem chSs_ok {X : Cx} {sp : Scope} (g : XS X k N ds sp) : ∀ (c : Sts S) (lv ll : List Nat) (s : List Stmt) (lv' : Option (List Nat)), NeedSs (gx X) k c → chSs N ds sp lv ll c s = some lv' → SSs X k lv ll c s lv'
  | .nil, lv, ll, s, lv', nd, h => by
    simp only [chSs] at h
    split at h
    · cases h; exact sss_nil
    · cases h
  | .cons a r, lv, ll, s, lv', nd, h => by
    simp only [chSs] at h
    split at h
    · rename_i s0 rest
      split at h
      · rename_i l hl
        have q1 := chS_ok g a lv ll s0 _ nd.1 hl
        have q2 := sss_cons q1 (r := r) (rest := rest) (lv2 := lv') fun l' hl' => by cases hl'; exact chSs_ok g r l ll rest lv' nd.2 h
        exact q2
      · rename_i hl
        cases h
        have q1 := chS_ok g a lv ll s0 _ nd.1 hl
        exact sss_cons q1 (r := r) (rest := rest) (lv2 := none) fun l' hl' => nomatch hl'
      · cases h
    · cases h
end
end
end Mir

set_option Elab.async false
set_option linter.all false
set_option maxRecDepth 100000
set_option maxHeartbeats 4000000
/-! Mir, part O: defs. -/
namespace Mir
open PySem PySem.Spec PyProof.Rows L2

/-- no state -/
def k0 : SK Unit := ⟨fun _ _ => True, fun _ => False, none, fun _ _ _ _ _ => trivial, fun _ _ _ _ h => h.elim⟩
/-- .. a slot whose address is known -/
def kA (a : Addr) : SK Unit := ⟨fun _ _ => True, fun _ => False, some (0, a), fun _ _ _ _ _ => trivial, fun _ _ _ _ h => h.elim⟩
/-- the draws, the last one first, in the list at a, which stands in slot i -/
def kR (i : Nat) (a : Addr) : SK (List Int) where
  rel := fun st H => H a = some (.lst (st.reverse.map V.int)) ∧ st.length ≤ sizeLine
  loc := fun b => b = a
  slot := some (i, a)
  keep := fun s H H' r h => ⟨by rw [h a rfl]; exact r.1, r.2⟩
  there := fun s H b r h => ⟨s.reverse.map V.int, by subst h; exact r.1⟩
def pureR (r : R (PyData × Unit)) : R PyData := r.bind fun p => .ok p.1
/-- a def without state -/
def defP (n : Nat) (body : Sts Unit) (args : List PyData) : R PyData := pureR (runDef n body args ())
/-- a def whose first parameter is the draws -/
def defD (n : Nat) (body : Sts (List Int)) (args : List PyData) : M (List Int) PyData :=
  bnd (runs body (none :: (args.map some ++ List.replicate (n - 1 - args.length) none))) fun fl => match fl with
    | .ret d => ret d
    | .nx _ => ret .none
    | _ => lft .bad
def spD (mg : Str → Option Value) (m : List PyData → List Int → R (PyData × List Int)) (n : Nat) : Sp := fun vs H Q E => ∃ a, spS mg (kR 0 a) a m n vs H Q E

section
variable (P : Program) (w : World) (K : PySem.W.Frag) (mg : Str → Option Value) (base : Heap)
/-- the name nm is a def that is m, at level lv -/
def FnG (lv : Nat) (nm : Str) (m : List PyData → R PyData) (n : Nat) : Prop := ∃ (f : Addr) (fd : FuncData) (ps : List Str),
  FnOk P w K mg base (L2.CX P w) lv f fd ps (spP mg m n) ∧ mg nm = some (.ref f) ∧ PySem.W.keepIn K (.ref f) = true ∧ Binds K fd ps []
def FnGD (lv : Nat) (nm : Str) (m : List PyData → List Int → R (PyData × List Int)) (n : Nat) : Prop := ∃ (f : Addr) (fd : FuncData) (ps : List Str),
  FnOk P w K mg base (L2.CX P w) lv f fd ps (spD mg m n) ∧ mg nm = some (.ref f) ∧ PySem.W.keepIn K (.ref f) = true ∧ Binds K fd ps []
end
section
variable {P : Program} {w : World} {K : PySem.W.Frag} {mg : Str → Option Value} {base : Heap} {lv lv' : Nat} {nm : Str} {n : Nat}
theorem FnG.s {m : List PyData → R PyData} (h : FnG P w K mg base lv nm m n) {A : Around} (hr : Room lv' A) (hl : lv ≤ lv') : FnS ⟨P, w, K, mg, base, A⟩ nm m n := by
  obtain ⟨f, fd, ps, F, h1, h2, h3⟩ := h
  exact ⟨f, fd, ps, lv, F, hr.mono hl, h1, h2, h3⟩
theorem FnGD.s {m : List PyData → List Int → R (PyData × List Int)} (h : FnGD P w K mg base lv nm m n) {A : Around} (hr : Room lv' A) (hl : lv ≤ lv') (i : Nat) (a : Addr) : ∃ j da, (kR i a).slot = some (j, da) ∧ FnSS ⟨P, w, K, mg, base, A⟩ (kR i a) da nm m n := by
  obtain ⟨f, fd, ps, F, h1, h2, h3⟩ := h
  exact ⟨i, a, rfl, f, fd, ps, lv, F.imp (fun vs H Q E q => ⟨a, q⟩), hr.mono hl, h1, h2, h3⟩

/-- the slots at the entry -/
theorem env_start {N : List Str} {T : Addr → Prop} {H : Hp} {ds : List PyData} {vs : List V} (r : RepL T H ds vs) (dm : DomM T H) (hn : vs.length ≤ N.length) :
    EnvO k0 T H (fun _ _ => False) (fun _ => none) (ds.map some ++ List.replicate (N.length - ds.length) none) () (start N vs) H := by
  have hl := r.length
  refine { v0 := fun i d hd _ => ?_, v1 := fun _ _ h => (nomatch h), inj := fun _ _ _ h => (nomatch h), new := fun _ _ h => (nomatch h), ext := .refl, dom0 := dm, loc := fun _ h => h.elim, rel := trivial, ds := fun _ h => (nomatch h), len := ?_, kept := fun _ _ h => h.elim }
  · have hi : i < ds.length := by
      by_cases hi : i < ds.length
      · exact hi
      · rw [List.getElem?_append_right (by simpa using hi), List.getElem?_replicate] at hd
        split at hd <;> cases hd
    rw [List.getElem?_append_left (by simpa using hi), List.getElem?_map] at hd
    have hd' : ds[i]? = some d := by
      cases q : ds[i]? with
      | none => rw [q] at hd; cases hd
      | some x => rw [q] at hd; cases hd; rfl
    obtain ⟨v, h1, h2⟩ := r.get hd'
    refine ⟨v, ?_, h2.less fun a t => t.elim id fun ⟨_, z⟩ => nomatch z⟩
    unfold L2.start
    rw [List.getElem?_append_left (by rw [List.length_map]; omega), List.getElem?_map, h1]
    rfl
  · unfold L2.start
    simp only [List.length_append, List.length_map, List.length_replicate, hl]
theorem envD_start {N : List Str} {T : Addr → Prop} {H : Hp} {ds : List PyData} {vs : List V} {a : Addr} {st : List Int} (r : RepL T H ds vs) (dm : DomM T H) (hn : vs.length + 1 ≤ N.length) (ha : T a) (rel : (kR 0 a).rel st H) :
    EnvO (kR 0 a) T H (fun _ _ => False) (fun _ => none) (none :: (ds.map some ++ List.replicate (N.length - 1 - ds.length) none)) st (start N (.ref a :: vs)) H := by
  have hl := r.length
  refine { v0 := fun i d hd _ => ?_, v1 := fun _ _ h => (nomatch h), inj := fun _ _ _ h => (nomatch h), new := fun _ _ h => (nomatch h), ext := .refl, dom0 := dm, loc := fun b h => by rw [show b = a from h]; exact ha, rel := rel, ds := fun p h => (by cases h; rfl), len := ?_, kept := fun _ _ h => h.elim }
  · cases i with
    | zero => cases hd
    | succ i =>
      rw [List.getElem?_cons_succ] at hd
      have hi : i < ds.length := by
        by_cases hi : i < ds.length
        · exact hi
        · rw [List.getElem?_append_right (by simpa using hi), List.getElem?_replicate] at hd
          split at hd <;> cases hd
      rw [List.getElem?_append_left (by simpa using hi), List.getElem?_map] at hd
      have hd' : ds[i]? = some d := by
        cases q : ds[i]? with
        | none => rw [q] at hd; cases hd
        | some x => rw [q] at hd; cases hd; rfl
      obtain ⟨v, h1, h2⟩ := r.get hd'
      refine ⟨v, ?_, h2.less fun a t => t.elim id fun ⟨_, z⟩ => nomatch z⟩
      unfold L2.start
      rw [List.map_cons, List.cons_append, List.getElem?_cons_succ, List.getElem?_append_left (by rw [List.length_map]; omega), List.getElem?_map, h1]
      rfl
  · unfold L2.start
    simp only [List.length_append, List.length_map, List.length_replicate, List.length_cons, hl]
    omega
/-- the context of a def -/
theorem xs_of {S : Type} {k : SK S} {N ps : List Str} {qual : Str} {sc : Scope} {f : Addr} {cd : Value} {A : Around} {outer : List PySem.Env} {s : Shared} {H : Hp} {E : XK} {j : Nat} {ds : Option Nat} (S : FnScope N ps sc) (fr : ∀ x ∈ bltNames, mg (Str.ofString x) = none) (hr : Room j (A.deeper (envOfC qual sc s.heap.objs.size f cd)))
    (hk : k.slot.map (·.1) = ds) : XS (cxOf (L2.CX P w) P w K mg base N qual sc f cd A outer s H E) k N ds sc where
  n := rfl
  nd := S.nd
  sc := rfl
  calm := rfl
  room := by have := hr.un; show (A.deeper _).units + 200 < cLine; omega
  free := fr
  slot := hk
  passes := passes_of rfl
  fn := fun _ => rfl
theorem FnScope.le {N ps : List Str} {sc : Scope} (S : FnScope N ps sc) : ps.length ≤ N.length := by
  have := congrArg List.length S.pre
  rw [List.length_take] at this
  omega
abbrev FnD (K : PySem.W.Frag) (x : Str) (pr : Arguments) (bd : List Stmt) (sc : Scope) (f : Addr) (fd : FuncData) : Prop := FunD K x x pr bd sc [] [] f fd
/-- THE RULE for a def without state -/
theorem def_ok {x : Str} {pr : Arguments} {bd : List Stmt} {sc : Scope} {f : Addr} {fd : FuncData} {N ps : List Str} {body : Sts Unit} {lv2 : Option (List Nat)} {j : Nat} (F : FnD K x pr bd sc f fd) (S : FnScope N ps sc) (fr : ∀ x ∈ bltNames, mg (Str.ofString x) = none) (hx : mg x = some (.ref f)) (hb : Binds K fd ps [])
    (hc : chSs N none sc [] [] body bd = some lv2) (nd : ∀ A, Room j A → NeedSs ⟨P, w, K, mg, base, A⟩ k0 body) : FnG P w K mg base (j + 1) x (defP N.length body) ps.length := by
  refine ⟨f, fd, ps, F.ok S (fun vs H Q E h => h.1) fun cdv A outer s H vs Q E hr h => ⟨_, pss_w, ?_⟩, hx, F.kp, hb⟩
  obtain ⟨hl, T, ds, dm, r, h⟩ := h
  have g := xs_of (P := P) (w := w) (K := K) (mg := mg) (base := base) (k := k0) (qual := x) (f := f) (cd := cdv) (outer := outer) (H := H) (E := E) (ds := none) S fr hr rfl
  have en := env_start (N := N) r dm (by rw [hl]; exact FnScope.le S)
  refine chSs_ok g body [] [] bd lv2 (nd _ hr) hc T H _ _ _ () _ H _ (fun cls d _ H => E cls d H) (fun i hi => by cases hi) en (takes_of rfl rfl rfl rfl) ?_
  unfold defP pureR runDef bnd R.bind at h
  cases hr2 : runs body (ds.map some ++ List.replicate (N.length - ds.length) none) () with
  | exc x l => rw [hr2] at h; exact fun cls dx σ H' hx e => h cls dx H' hx e
  | bad => rw [hr2] at h; exact h
  | ok q =>
    obtain ⟨fl, st⟩ := q
    rw [hr2] at h
    cases fl with
    | nx ρ => exact fun l hl σ H' O hO e => h .non H' .mkNone e.ext
    | ret d => exact fun v H' rv e _ => h v H' rv e
    | brk ρ => exact h.elim
    | cnt ρ => exact h.elim
/-- .. whose first parameter is the draws -/
theorem defD_ok {x : Str} {pr : Arguments} {bd : List Stmt} {sc : Scope} {f : Addr} {fd : FuncData} {N ps : List Str} {body : Sts (List Int)} {lv2 : Option (List Nat)} {j n : Nat} (F : FnD K x pr bd sc f fd) (S : FnScope N ps sc) (fr : ∀ x ∈ bltNames, mg (Str.ofString x) = none) (hx : mg x = some (.ref f)) (hb : Binds K fd ps [])
    (hn : ps.length = n + 1) (hc : chSs N (some 0) sc [] [] body bd = some lv2) (nd : ∀ A, Room j A → ∀ a, NeedSs ⟨P, w, K, mg, base, A⟩ (kR 0 a) body) : FnGD P w K mg base (j + 1) x (defD N.length body) n := by
  refine ⟨f, fd, ps, F.ok S (fun vs H Q E h => ?_) fun cdv A outer s H vs Q E hr h => ⟨_, pss_w, ?_⟩, hx, F.kp, hb⟩
  · obtain ⟨a, T, ds, st, ws, rfl, hl, _⟩ := h
    rw [hn]; exact congrArg Nat.succ hl
  obtain ⟨a, T, ds, st, ws, rfl, hl, dm, hT, r, rel, h⟩ := h
  have g := xs_of (P := P) (w := w) (K := K) (mg := mg) (base := base) (k := kR 0 a) (qual := x) (f := f) (cd := cdv) (outer := outer) (H := H) (E := E) (ds := some 0) S fr hr rfl
  have en := envD_start (N := N) r dm (by rw [hl, ← hn]; exact FnScope.le S) (hT a rfl) rel
  refine chSs_ok g body [] [] bd lv2 (nd _ hr a) hc T H _ _ _ st _ H _ (fun cls d _ H => E cls d H) (fun i hi => by cases hi) en (takes_of rfl rfl rfl rfl) ?_
  unfold defD bnd R.bind at h
  cases hr2 : runs body (none :: (ds.map some ++ List.replicate (N.length - 1 - ds.length) none)) st with
  | exc x l => rw [hr2] at h; exact fun cls dx σ H' hx e => h cls dx H' hx e
  | bad => rw [hr2] at h; exact h
  | ok q =>
    obtain ⟨fl, st2⟩ := q
    rw [hr2] at h
    cases fl with
    | nx ρ => exact fun l hl σ H' O hO e => h .non H' .mkNone e.ext e.rel
    | ret d => exact fun v H' rv e rl => h v H' rv e rl
    | brk ρ => exact h.elim
    | cnt ρ => exact h.elim
end
end Mir

set_option Elab.async false
set_option linter.all false
set_option maxRecDepth 100000
set_option maxHeartbeats 4000000
/-! Mir, part P: the draws. -/
namespace Mir
open PySem PySem.Spec PyProof.Rows L2

/-- the next draw, below a bound -/
def m_take (ds : List PyData) (st : List Int) : R (PyData × List Int) := match ds with
  | [.int b] => (match st with
    | [] => .ok (.int 0, [])
    | x :: r => if 0 < b then .ok (.int (x % b), r) else .bad)
  | _ => .bad
/-- is that the text of the def that takes a draw? -/
def takeB (bd : List Stmt) : Bool := match bd with
  | [.If (.Compare (.Call (.Name l _) [.Name d1 _] [] _) [.Eq] [.Constant (.int z) _ _] _) [.Return (some (.Constant (.int z2) _ _)) _] [] _, .Return (some (.BinOp (.Call (.Name i _) [.Call (.Attribute (.Name d2 _) p ap) [] [] cp] [] _) .Mod (.Name b _) _)) _] =>
    decide (("len" : Str) = l) && decide (("draws" : Str) = d1) && decide ((0 : Int) = z) && decide ((0 : Int) = z2) && decide (("int" : Str) = i) && decide (("draws" : Str) = d2) && decide (("pop" : Str) = p) && decide (("bound" : Str) = b) && (ap.endLine == cp.line)
  | _ => false
section
variable {P : Program} {w : World} {K : PySem.W.Frag} {mg : Str → Option Value} {base : Heap}
theorem take_ok {pr : Arguments} {bd : List Stmt} {sc : Scope} {f : Addr} {fd : FuncData} (F : FnD K "_law_take" pr bd sc f fd) (S : FnScope ["draws", "bound"] ["draws", "bound"] sc) (fr : ∀ x ∈ bltNames, mg (Str.ofString x) = none) (hx : mg "_law_take" = some (.ref f)) (hb : Binds K fd ["draws", "bound"] [])
    (h : takeB bd = true) (hl : glB sc "len" = true) (hi : glB sc "int" = true) (hd : visB sc "draws" = true) (hbo : visB sc "bound" = true) : FnGD P w K mg base 1 "_law_take" m_take 1 := by
  refine ⟨f, fd, _, F.ok S (fun vs H Q E h => ?_) fun cdv A outer s H vs Q E hr hsp => ⟨_, pss_w, ?_⟩, hx, F.kp, hb⟩
  · obtain ⟨a, T, ds, st, ws, rfl, hl, _⟩ := h
    exact congrArg Nat.succ hl
  unfold takeB at h
  split at h
  · rename_i l p1 d1 p2 p3 z k4 p4 p5 z2 k6 p6 p7 p8 i p9 d2 p10 p ap cp p11 b p12 p13 p14
    simp only [Bool.and_eq_true, decide_eq_true_eq] at h
    obtain ⟨⟨⟨⟨⟨⟨⟨⟨rfl, rfl⟩, rfl⟩, rfl⟩, rfl⟩, rfl⟩, rfl⟩, rfl⟩, hline⟩ := h
    obtain ⟨a, T, ds, st, ws, rfl, hl', dm, hT, r, rel, hm⟩ := hsp
    have g := xs_of (P := P) (w := w) (K := K) (mg := mg) (base := base) (k := kR 0 a) (qual := "_law_take") (f := f) (cd := cdv) (outer := outer) (H := H) (E := E) (ds := some 0) S fr hr rfl
    generalize hX : cxOf (L2.CX P w) P w K mg base ["draws", "bound"] "_law_take" sc f cdv A outer s H E = X at g ⊢
    have hN : X.N = (["draws", "bound"] : List Str) := g.n
    have v0 : PE X (.Name "draws" p2) (tVar 0) := pe_var (by rw [hN]; rfl) (visB_ok g.sc hd)
    have v0' : PE X (.Name "draws" p10) (tVar 0) := pe_var (by rw [hN]; rfl) (visB_ok g.sc hd)
    have v1 : PE X (.Name "bound" p12) (tVar 1) := pe_var (by rw [hN]; rfl) (visB_ok g.sc hbo)
    have hlen := glB_ok g.sc hl
    have hint := glB_ok g.sc hi
    have pop : PE X (.Call (.Attribute (.Name "draws" p10) "pop" ap) [] [] cp) _ := pe_bm0 PySem.F.plainAttrs_list PySem.F.slot_list_pop PySem.F.type_list_pop mt_pop v0' rfl hline
    have room := g.room
    refine (pss_cons (ps_if (pt_cmpR (op_cmpD (by omega) .Eq) (pe_callB blt_len hlen.1 (gl_free g.toXG (n := "len") (by decide)) (by decide +kernel) (pa_cons v0 pa_nil)) pe_int (by rfl)) (pss_one (ps_ret pe_int)) pss_nil)
      (pss_one (ps_ret (pe_op op_mod (pe_callTy blt_int hint.1 (gl_free g.toXG (n := "int") (by decide)) (by decide +kernel) (pa_cons pop pa_nil)) v1)))).w ?_
    obtain ⟨hst, hstl⟩ := rel
    -- the slots
    refine ⟨.ref a, by simp [L2.start], NoT, [.list (st.reverse.map PyData.int)], .int (st.length : Nat), fun _ _ z => z, ?_, by simp [bltD, one, lenD], fun v H1 rv e1 => ?_⟩
    · refine .cons (.mkList id hst (by simpa using hstl) ?_) .nil
      generalize st.reverse = l
      induction l with
      | nil => exact .nil
      | cons x xs ih => exact .cons .mkInt ih
    · have ev := rv.int_inv
      subst ev
      have hst1 : H1 a = some (.lst (st.reverse.map V.int)) := e1 _ _ id hst
      refine ⟨NoT, .int (st.length : Nat), .int 0, .bool (decide ((st.length : Int) = 0)), fun _ _ z => z, .mkInt, .mkInt, ?_, fun v2 H2 rv2 e2 => ⟨_, rv2.bool_inv, ?_⟩⟩
      · have e1 : okD (.int (st.length : Nat)) = true := rfl
        have e2 : okD (.int 0) = true := rfl
        unfold cmpD
        simp only [e1, e2, Bool.and_self, if_true]
        rfl
      · have hst2 : H2 a = some (.lst (st.reverse.map V.int)) := e2 _ _ id hst1
        cases st with
        | nil =>
          obtain ⟨d, rfl⟩ : ∃ d, ds = [d] := by
            have := r.length
            rw [hl'] at this
            match ds, this with
            | [d], _ => exact ⟨d, rfl⟩
          show Q (.int 0) H2
          unfold m_take at hm
          cases d with
          | int b =>
            refine hm (.int 0) H2 .mkInt (fun b u nl hb => e2 _ _ id (e1 _ _ id hb)) ⟨hst2, Nat.zero_le _⟩
          | _ => exact hm.elim
        | cons x rest =>
          obtain ⟨d, rfl⟩ : ∃ d, ds = [d] := by
            have := r.length
            rw [hl'] at this
            match ds, this with
            | [d], _ => exact ⟨d, rfl⟩
          cases d with
          | int b =>
            obtain ⟨v, t, rfl, rb, rt⟩ := r.cons_inv
            have : t = [] := rt.nil_inv
            subst this
            have := rb.int_inv
            subst this
            by_cases hb0 : 0 < b
            · have e : m_take [.int b] (x :: rest) = .ok (.int (x % b), rest) := by
                show (if 0 < b then _ else _) = _
                rw [if_pos hb0]
              rw [e] at hm
              have hd : decide ((((x :: rest).length : Nat) : Int) = 0) = false := by simp; omega
              rw [hd]
              have hxs : (x :: rest).reverse.map V.int = rest.reverse.map V.int ++ [V.int x] := by simp
              rw [hxs] at hst2
              have hdl : (rest.reverse.map V.int ++ [V.int x]).dropLast = rest.reverse.map V.int := by simp
              -- draws.pop(), int(..), % bound
              refine ⟨.ref a, by simp [L2.start], .inl ⟨rfl, _, .inl (.inl hst2)⟩, a, _, V.int x, rfl, rfl, hst2, by simp, ?_⟩
              rw [hdl]
              refine ⟨NoT, [.int x], .int x, fun _ _ z => z, .cons .mkInt .nil, rfl, fun v3 H3 rv3 e3 => ?_⟩
              have := rv3.int_inv
              subst this
              refine ⟨.int b, by simp [L2.start], x, b, rfl, rfl, hb0, ?_⟩
              refine hm (.int (x % b)) H3 .mkInt (fun c u nl hc => ?_) ⟨e3 _ _ id upd_same, by simp at hstl; omega⟩
              refine e3 _ _ id ?_
              rw [upd_ne nl]
              exact e2 _ _ id (e1 _ _ id hc)
            · have e : m_take [.int b] (x :: rest) = .bad := by
                show (if 0 < b then _ else _) = _
                rw [if_neg hb0]
              rw [e] at hm; exact hm.elim
          | _ => exact hm.elim
  · cases h
end
end Mir
namespace Mir
open PySem PySem.Spec PyProof.Rows L2
section
variable {S : Type} {k : SK S} {N : List Str} {ds : Option Nat}
/-- some statements, then the rest -/
theorem pre_then {X : Cx} {sp : Scope} (g : XS X k N ds sp) {rest : List Stmt} {l : List Nat} : ∀ (c : Sts S) (lv : List Nat) (pre : List Stmt), NeedSs (gx X) k c → chSs N ds sp lv [] c pre = some (some l) →
    ∀ (T0 : Addr → Prop) (H0 : Hp) (P : Addr → HO → Prop) (O : Nat → Option Addr) (ρ : Env) (st : S) (σ : L2.St) (H : Hp) (D : Ends) (W : WX) (ρ' : Env) (st' : S), (∀ i ∈ lv, O i ≠ none) → EnvO k T0 H0 P O ρ st σ H → Takes X W → runs c ρ st = .ok (.nx ρ', st') →
      (∀ σ' H' O', (∀ i ∈ l, O' i ≠ none) → EnvO k T0 H0 P O' ρ' st' σ' H' → wSs X rest D σ' H') → wSs X (pre ++ rest) D σ H
  | .nil, lv, pre, nd, h, T0, H0, P, O, ρ, st, σ, H, D, W, ρ', st', hO, en, t, hr, q => by
    simp only [chSs] at h
    split at h
    · cases h; cases hr; exact q σ H O hO en
    · cases h
  | .cons a r, lv, pre, nd, h, T0, H0, P, O, ρ, st, σ, H, D, W, ρ', st', hO, en, t, hr, q => by
    simp only [chSs] at h
    split at h
    · rename_i s0 rest0
      split at h
      · rename_i l1 hl1
        refine (pss_cons ps_w pss_w).w ?_
        refine chS_ok g a lv [] s0 _ nd.1 hl1 T0 H0 P O ρ st σ H { D with nx := fun σ' H' => wSs X (rest0 ++ rest) D σ' H' } W hO en t ?_
        simp only [runs] at hr
        unfold bnd at hr
        obtain ⟨⟨fl, st1⟩, h1, h2⟩ := bind_ok hr
        rw [h1]
        cases fl with
        | nx ρ1 =>
          intro l' hl' σ' H' O' hO' en'
          cases hl'
          exact pre_then g r l1 rest0 nd.2 h T0 H0 P O' ρ1 st1 σ' H' D W ρ' st' hO' en' t h2 q
        | ret d => cases h2
        | brk ρ1 => cases h2
        | cnt ρ1 => cases h2
      · cases h
      · cases h
    · cases h
end
theorem repL_ints {T : Addr → Prop} {H : Hp} : ∀ {st : List Int} {xs : List V}, RepL T H (st.map PyData.int) xs → xs = st.map V.int
  | [], xs, h => h.nil_inv
  | i :: st, xs, h => by
    obtain ⟨x, t, rfl, h1, h2⟩ := RepL.cons_inv h
    rw [h1.int_inv, repL_ints h2]; rfl
/-- a script that is walked -/
theorem JW.script {T : Addr → Prop} {H : Hp} {K : PySem.W.Frag} {a : Addr} {ns : List Int} (n : ∀ o, H a = some o → ¬ T a) (h : SqL K H a (ns.map V.int)) : JW T (ns.map PyData.int) (Itl K a) H := fun i H' T' m dm => by
  have h' : SqL K H' a (ns.map V.int) := by
    rcases h with (h | ⟨o, h⟩) | h
    · exact .inl (.inl (m.h a _ (n _ h) h))
    · exact .inl (.inr ⟨o, m.h a _ (n _ h) h⟩)
    · exact .inr h
  have hl : (ns.map V.int).length = (ns.map PyData.int).length := by simp
  refine ⟨fun hi => ?_, fun hi => ⟨_, h', by rw [hl]; exact hi⟩⟩
  have hi' : i < ns.length := by simpa using hi
  refine ⟨⟨_, V.int ns[i], h', by simp [hi']⟩, fun y H2 hy => ?_⟩
  obtain ⟨rfl, hy⟩ := hy
  have e := hy _ h'
  rw [List.getElem?_map, List.getElem?_eq_getElem hi'] at e
  cases e
  exact ⟨⟨.int ns[i], by simp [hi'], .mkInt⟩, .refl⟩
/-- what the def that makes the draws promises -/
def spDr (K : PySem.W.Frag) : Sp := fun vs H Q E => ∃ (a : Addr) (ns : List Int), vs = [.ref a] ∧ ns.length ≤ 63 ∧ SqL K H a (ns.map V.int) ∧ ∀ p H' (st : List Int), H' p = some (.lst (st.map V.int)) → st.length ≤ sizeLine → Q (.ref p) H'
/-- the parts of its text -/
def cutFor (x : Str) : List Stmt → Option (List Stmt × Expr × List Stmt × List Stmt)
  | .For tg (.Name y p) body [] pos :: rest => if y = x then some ([], tg, body, rest) else (cutFor x rest).map fun q => (.For tg (.Name y p) body [] pos :: q.1, q.2)
  | s :: rest => (cutFor x rest).map fun q => (s :: q.1, q.2)
  | [] => none
theorem cutFor_ok {x : Str} : ∀ {bd : List Stmt} {pre body rest : List Stmt} {tg : Expr}, cutFor x bd = some (pre, tg, body, rest) → ∃ p pos, bd = pre ++ .For tg (.Name x p) body [] pos :: rest
  | [], _, _, _, _, h => by cases h
  | s :: bd, pre, body, rest, tg, h => by
    unfold cutFor at h
    split at h
    · rename_i tg' y p body' pos rest' heq
      cases heq
      split at h
      · rename_i hy
        cases h
        subst hy
        exact ⟨p, pos, rfl⟩
      · cases q : cutFor x bd with
        | none => rw [q] at h; cases h
        | some q' =>
          rw [q] at h
          obtain ⟨q1, q2, q3, q4⟩ := q'
          cases h
          obtain ⟨p', pos', e⟩ := cutFor_ok q
          exact ⟨p', pos', by rw [e]; rfl⟩
    · rename_i heq
      cases heq
      cases q : cutFor x bd with
      | none => rw [q] at h; cases h
      | some q' =>
        rw [q] at h
        obtain ⟨q1, q2, q3, q4⟩ := q'
        cases h
        obtain ⟨p', pos', e⟩ := cutFor_ok q
        exact ⟨p', pos', by rw [e]; rfl⟩
    · cases ‹_ = _›
/-- the outcome -/
def drawsR (n cell : Nat) (p1 p2 p3 : Sts Unit) (ns : List Int) : R (Fl × Unit) := (runs p1 (List.replicate n none) ()).bind fun q => match q.1 with
  | .nx ρ => (forGo (fun x ρ => bnd (lft (asg (.nm cell) x ρ)) fun ρ' => runs p2 ρ') (ns.map PyData.int) ρ q.2).bind fun q => (match q.1 with
    | .nx ρ => runs p3 ρ q.2
    | _ => .bad)
  | _ => .bad
section
variable {P : Program} {w : World} {K : PySem.W.Frag} {mg : Str → Option Value} {base : Heap}
theorem draws_ok {pr : Arguments} {bd pre lb rest : List Stmt} {etg : Expr} {sc : Scope} {f : Addr} {fd : FuncData} {N : List Str} {p1 p2 p3 : Sts Unit} {cell : Nat} {l1 li : List Nat} {lb2 l3 : Option (List Nat)} (F : FnD K "_law_draws" pr bd sc f fd) (S : FnScope N ["script"] sc) (fr : ∀ x ∈ bltNames, mg (Str.ofString x) = none)
    (hcut : cutFor "script" bd = some (pre, etg, lb, rest)) (h1 : chSs N (some 0) sc [] [] p1 pre = some (some l1)) (h2 : chSs N (some 0) sc li li p2 lb = some lb2) (h3 : chSs N (some 0) sc li [] p3 rest = some l3)
    (hli : subB li l1 = true) (hlb : subO li lb2 = true) (htg : tgB N sc (.nm cell) etg = true) (hc0 : cell ≠ 0) (hcl : li.contains cell = false) (hv : visB sc "script" = true) (hN0 : N[0]? = some ("script" : Str))
    (nd : ∀ A, Room 0 A → ∀ a, NeedSs ⟨P, w, K, mg, base, A⟩ (kA a) p1 ∧ NeedSs ⟨P, w, K, mg, base, A⟩ (kA a) p2 ∧ NeedSs ⟨P, w, K, mg, base, A⟩ (kA a) p3)
    (sem : ∀ ns : List Int, ns.length ≤ 63 → ∃ st : List Int, drawsR N.length cell p1 p2 p3 ns = .ok (.ret (.list (st.map PyData.int)), ()) ∧ st.length ≤ sizeLine) : FnOk P w K mg base (L2.CX P w) 1 f fd ["script"] (spDr K) := by
  refine F.ok S (fun vs H Q E h => ?_) fun cdv A outer s H vs Q E hr hsp => ⟨_, pss_w, ?_⟩
  · obtain ⟨a, ns, rfl, _⟩ := h; rfl
  obtain ⟨a, ns, rfl, hns, hS, hQ⟩ := hsp
  obtain ⟨st, hd, hst⟩ := sem ns hns
  obtain ⟨p0, pos0, rfl⟩ := cutFor_ok hcut
  have g := xs_of (P := P) (w := w) (K := K) (mg := mg) (base := base) (k := kA a) (qual := "_law_draws") (f := f) (cd := cdv) (outer := outer) (H := H) (E := E) (ds := some 0) S fr hr rfl
  have tk : Takes (cxOf (L2.CX P w) P w K mg base N "_law_draws" sc f cdv A outer s H E) (fun cls d _ H => E cls d H) := takes_of rfl rfl rfl rfl
  obtain ⟨nd1, nd2, nd3⟩ := nd _ hr a
  have nd1 : NeedSs (gx (cxOf (L2.CX P w) P w K mg base N "_law_draws" sc f cdv A outer s H E)) (kA a) p1 := nd1
  have nd2 : NeedSs (gx (cxOf (L2.CX P w) P w K mg base N "_law_draws" sc f cdv A outer s H E)) (kA a) p2 := nd2
  have nd3 : NeedSs (gx (cxOf (L2.CX P w) P w K mg base N "_law_draws" sc f cdv A outer s H E)) (kA a) p3 := nd3
  have hKX : (cxOf (L2.CX P w) P w K mg base N "_law_draws" sc f cdv A outer s H E).K = K := rfl
  generalize hX : cxOf (L2.CX P w) P w K mg base N "_law_draws" sc f cdv A outer s H E = X at g tk nd1 nd2 nd3 hKX ⊢
  have hlen : 1 ≤ N.length := FnScope.le S
  have en : EnvO (kA a) (fun _ => False) H (fun b o => b = a ∧ H a = some o) (fun _ => none) (List.replicate N.length none) () (L2.start N [.ref a]) H :=
    { v0 := fun i d hd _ => (by rw [List.getElem?_replicate] at hd; split at hd <;> cases hd), v1 := fun _ _ h => (nomatch h), inj := fun _ _ _ h => (nomatch h), new := fun _ _ h => (nomatch h), ext := .refl, dom0 := fun _ h => h.elim, loc := fun _ h => h.elim, rel := trivial,
      ds := fun p h => (by cases h; rfl), len := (by unfold L2.start; simp; omega), kept := fun b o ⟨e1, e2⟩ => ⟨fun t => t.elim id fun ⟨_, z⟩ => (nomatch z), by rw [e1]; exact e2⟩ }
  unfold drawsR at hd
  obtain ⟨⟨fl1, u1⟩, hd1, hd⟩ := bind_ok hd
  cases fl1 with
  | ret d => cases hd
  | brk ρ => cases hd
  | cnt ρ => cases hd
  | nx ρ1 =>
    obtain ⟨⟨fl2, u2⟩, hd2, hd⟩ := bind_ok hd
    cases fl2 with
    | ret d => cases hd
    | brk ρ => cases hd
    | cnt ρ => cases hd
    | nx ρ2 =>
      refine pre_then g p1 [] pre nd1 h1 _ H _ _ _ () _ H _ _ ρ1 u1 (fun i hi => by cases hi) en tk hd1 fun σ' H' O' hO' en' => ?_
      refine (pss_cons ps_w pss_w).w ?_
      have hnd : X.N.Nodup := by rw [g.n]; exact g.nd
      have vs : PE X (.Name "script" p0) (tVar 0) := pe_var (by rw [g.n]; exact hN0) (visB_ok g.sc hv)
      refine wS.at fun pins sh I => (ps_for g.passes g.calm (pi_list vs) pg_w pss_w (by intro _; rfl)).w ?_
      have hT : ∀ o, H' a = some o → ¬ TO (fun _ => False) O' a := fun o ho => by
        intro t
        rcases t with t | ⟨i, t⟩
        · exact t
        · have hn := en'.new i a t
          rcases hS with (h | ⟨o2, h⟩) | h
          · rw [h] at hn; cases hn
          · rw [h] at hn; cases hn
          · obtain ⟨o2, its, n, hK, _⟩ := h
            have := (I.bs a o2 (I.ok.mod.kin a o2 (by rw [hKX]; exact hK))).2
            rw [ho] at this; cases this
      have hS' : SqL X.K H' a (ns.map V.int) := by
        rw [hKX]
        rcases hS with (h | ⟨o, h⟩) | h
        · exact .inl (.inl (en'.kept a _ ⟨rfl, h⟩).2)
        · exact .inl (.inr ⟨o, (en'.kept a _ ⟨rfl, h⟩).2⟩)
        · exact .inr h
      refine ⟨.ref a, en'.ds _ rfl, a, rfl, ⟨_, hS'⟩, ?_⟩
      have tgo : TgOk X (.nm cell) etg := tgB_of (X := X) (fun i e q => tgN_def g.n g.sc g.fn q) htg
      refine for_core (li := li) (lb := lb2) (ll := []) hnd g.calm tgo (chSs_ok g p2 li li lb lb2 nd2 h2) (subO_ok hlb) (fun i hi => ?_) (tgOk_lt tgo) (fun p hp => ?_) (by simp [tgs]) (JW.script hT hS') (fun i hi => hO' i (subB_ok hli i hi)) en' tk ?_
      · have : i = cell := by simpa [tgs] using hi
        subst this
        intro z
        rw [List.contains_iff_mem.mpr z] at hcl
        cases hcl
      · cases hp
        simpa [tgs] using Ne.symm hc0
      · rw [hd2]
        intro l hl σ2 H2 O2 hO2 en2
        cases hl
        refine chSs_ok g p3 li [] rest l3 nd3 h3 _ H _ O2 ρ2 u2 σ2 H2 _ _ hO2 en2 tk ?_
        have hd3 : runs p3 ρ2 u2 = .ok (.ret (.list (st.map PyData.int)), ()) := hd
        rw [hd3]
        intro v H3 rv e3 _
        obtain ⟨p, xs, rfl, _, hp, hz, rr⟩ := rv.list_inv
        have := repL_ints rr
        subst this
        exact hQ p H3 st hp hst
end
end Mir

set_option Elab.async false
set_option linter.all false
set_option maxRecDepth 100000
set_option maxHeartbeats 4000000
/-! Mir, part Q: a law. -/
namespace Mir
open PySem PySem.Spec PyProof.Rows L2

def spLaw (K : PySem.W.Frag) : Sp := fun vs H Q E => ∃ (a : Addr) (ns : List Int), vs = [.ref a] ∧ ns.length ≤ 63 ∧ SqL K H a (ns.map V.int) ∧ ∀ H', Q (.bl true) H'
/-- draws = _law_draws(script), and the rest -/
def lawB : List Stmt → Option (List Stmt)
  | .Assign [.Name d _] (.Call (.Name l _) [.Name x _] [] _) _ :: rest => if decide (("draws" : Str) = d) && decide (("_law_draws" : Str) = l) && decide (("script" : Str) = x) then some rest else none
  | _ => none
section
variable {P : Program} {w : World} {K : PySem.W.Frag} {mg : Str → Option Value} {base : Heap}
theorem law_ok {pr : Arguments} {bd rest : List Stmt} {sc : Scope} {f fD : Addr} {fd fdD : FuncData} {N : List Str} {body : Sts (List Int)} {j : Nat} {lv2 : Option (List Nat)} (F : FnD K "law" pr bd sc f fd) (S : FnScope N ["script"] sc) (fr : ∀ x ∈ bltNames, mg (Str.ofString x) = none)
    (FD : FnOk P w K mg base (L2.CX P w) 1 fD fdD ["script"] (spDr K)) (gD : mg "_law_draws" = some (.ref fD)) (kD : PySem.W.keepIn K (.ref fD) = true) (bD : Binds K fdD ["script"] []) (hj : 1 ≤ j)
    (hb : lawB bd = some rest) (hN0 : N[0]? = some ("script" : Str)) (hN1 : N[1]? = some ("draws" : Str)) (hv : visB sc "script" = true) (hd : locB sc "draws" = true) (hg : glB sc "_law_draws" = true)
    (hc : chSs N (some 1) sc [] [] body rest = some lv2) (nd : ∀ A, Room j A → ∀ a, NeedSs ⟨P, w, K, mg, base, A⟩ (kR 1 a) body)
    (sem : ∀ st : List Int, ∃ st', runs body (List.replicate N.length none) st = .ok (.ret (.bool true), st')) : FnOk P w K mg base (L2.CX P w) (j + 1) f fd ["script"] (spLaw K) := by
  refine F.ok S (fun vs H Q E h => ?_) fun cdv A outer s H vs Q E hr hsp => ⟨_, pss_w, ?_⟩
  · obtain ⟨a, ns, rfl, _⟩ := h; rfl
  obtain ⟨a, ns, rfl, hns, hS, hQ⟩ := hsp
  unfold lawB at hb
  split at hb
  · rename_i d p1 l p2 x p3 p4 p5 rest'
    split at hb
    · rename_i hz
      cases hb
      simp only [Bool.and_eq_true, decide_eq_true_eq] at hz
      obtain ⟨⟨rfl, rfl⟩, rfl⟩ := hz
      have tk : Takes (cxOf (L2.CX P w) P w K mg base N "law" sc f cdv A outer s H E) (fun cls d _ H => E cls d H) := takes_of rfl rfl rfl rfl
      have nd' : ∀ a, NeedSs (gx (cxOf (L2.CX P w) P w K mg base N "law" sc f cdv A outer s H E)) (kR 1 a) body := nd _ hr
      have gs : ∀ p, XS (cxOf (L2.CX P w) P w K mg base N "law" sc f cdv A outer s H E) (kR 1 p) N (some 1) sc := fun p => xs_of S fr hr rfl
      have FD' : FnOk (cxOf (L2.CX P w) P w K mg base N "law" sc f cdv A outer s H E).prog (cxOf (L2.CX P w) P w K mg base N "law" sc f cdv A outer s H E).w (cxOf (L2.CX P w) P w K mg base N "law" sc f cdv A outer s H E).K (cxOf (L2.CX P w) P w K mg base N "law" sc f cdv A outer s H E).mg (cxOf (L2.CX P w) P w K mg base N "law" sc f cdv A outer s H E).base (L2.CX P w) 1 fD fdD ["script"] (spDr K) := FD
      have hrX : Room 1 (cxOf (L2.CX P w) P w K mg base N "law" sc f cdv A outer s H E).A := hr.mono hj
      have gDX : (cxOf (L2.CX P w) P w K mg base N "law" sc f cdv A outer s H E).mg "_law_draws" = some (.ref fD) := gD
      have kDX : PySem.W.keepIn (cxOf (L2.CX P w) P w K mg base N "law" sc f cdv A outer s H E).K (.ref fD) = true := kD
      have bDX : Binds (cxOf (L2.CX P w) P w K mg base N "law" sc f cdv A outer s H E).K fdD ["script"] [] := bD
      have eP : (cxOf (L2.CX P w) P w K mg base N "law" sc f cdv A outer s H E).prog = P := rfl
      have eW : (cxOf (L2.CX P w) P w K mg base N "law" sc f cdv A outer s H E).w = w := rfl
      generalize hX : cxOf (L2.CX P w) P w K mg base N "law" sc f cdv A outer s H E = X at gs tk nd' FD' hrX gDX kDX bDX eP eW ⊢
      have g := gs a
      obtain ⟨hgl, hgd⟩ := glB_ok g.sc hg
      have hnd : X.N.Nodup := by rw [g.n]; exact g.nd
      have vs : PE X (.Name "script" p3) (tVar 0) := pe_var (by rw [g.n]; exact hN0) (visB_ok g.sc hv)
      have tk' : ∀ σ, PassesAt (L2.CX P w) X σ (WE (fun cls d _ H => E cls d H) σ) := fun σ => by
        have := passAt tk σ
        rw [eP, eW] at this
        exact this
      refine (pss_cons (ps_set hnd (by rw [g.n]; exact hN1) (locB_Loc g.sc hd) (pe_callS (E := WE (fun cls d _ H => E cls d H)) FD' hrX hgl gDX kDX bDX tk' (pa_cons vs pa_nil) hgd rfl rfl) rfl (.inl (g.fn _))) pss_w).w ?_
      refine ⟨.ref a, rfl, a, ns, rfl, hns, hS, fun p H' st hp hst => ?_⟩
      have hlen : 2 ≤ N.length := (List.getElem?_eq_some_iff.mp hN1).1
      have en : EnvO (kR 1 p) (fun b => b = p) H' (fun _ _ => False) (fun _ => none) (List.replicate N.length none) st.reverse ((L2.start N [.ref a]).set 1 (some (.ref p))) H' :=
        { v0 := fun i d hd _ => (by rw [List.getElem?_replicate] at hd; split at hd <;> cases hd), v1 := fun _ _ h => (nomatch h), inj := fun _ _ _ h => (nomatch h), new := fun _ _ h => (nomatch h), ext := .refl, dom0 := fun b h => ⟨.lst (st.map V.int), (by subst h; exact hp), trivial⟩, loc := fun _ h => h, rel := ⟨by rw [List.reverse_reverse]; exact hp, by rw [List.length_reverse]; exact hst⟩,
          ds := fun q h => (by cases h; exact List.getElem?_set_self (by unfold L2.start; simp; omega)), len := (by unfold L2.start; simp; omega), kept := fun _ _ h => h.elim }
      obtain ⟨st', hs⟩ := sem st.reverse
      refine chSs_ok (gs p) body [] [] _ lv2 (nd' p) hc _ H' _ _ _ _ _ H' _ _ (fun i hi => by cases hi) en tk ?_
      rw [hs]
      intro v H2 rv _ _
      rw [rv.bool_inv]
      exact hQ H2
    · cases hb
  · cases hb
end
end Mir

set_option Elab.async false
set_option linter.all false
set_option maxRecDepth 100000
set_option maxHeartbeats 4000000
/-! Mir, part R: what the head tells. -/
namespace Mir
open PySem PySem.Spec PyProof.Rows L2

abbrev AlM : Type := He.AlD × Bool
def obsM (n : Nat) (fa : List He.Fa) (fn : List He.DefD) (ex : PySem.W.Frag → Bool) (g : Addr → Option Obj) : AlM := (He.obsD fa fn (He.frG g (He.asD g n)), ex (He.frG g (He.asD g n)))
def hookM (n : Nat) (fa : List He.Fa) (fn : List He.DefD) (ex : PySem.W.Frag → Bool) : PySem.W.Hook where
  α := AlM
  obs := fun s => obsM n fa fn ex s.heap.get?
  val := fun _ => (He.valD fn, true)
  says := fun _ h => ∃ K : PySem.W.Frag, K.In h ∧ He.SaysD fa fn K ∧ ex K = true
  of := fun _ _ e => ⟨_, He.frG_in, congrArg (fun z : AlM => z.1) e, congrArg (fun z : AlM => z.2) e⟩
  keeps := fun _ _ _ ⟨K, a, b⟩ k => ⟨K, PySem.W.Frag.In.keeps a k, b⟩
theorem obsM_eq {n : Nat} {fa : List He.Fa} {fn : List He.DefD} {ex : PySem.W.Frag → Bool} {g : Addr → Option Obj} {s : Shared} (h : ∀ a, g a = s.heap.get? a) : obsM n fa fn ex g = (hookM n fa fn ex).obs s := by
  have e : g = s.heap.get? := funext h
  subst e
  rfl
section
variable {K : PySem.W.Frag} {h : Heap} {mg : Str → Option Value}
/-- the module's name x is the def d -/
def DefAt (K : PySem.W.Frag) (mg : Str → Option Value) (x : Str) (st : Stmt) : Prop := ∃ f fd, FnD K x (defArgs st) (defBody st) (defScope st) f fd ∧ mg x = some (.ref f)
def RK (K : PySem.W.Frag) (mg : Str → Option Value) (x : Str) : Prop := ∃ (C : Addr) (bmB : List Value) (B newId initId : String), ExcBaseFacts B newId initId bmB ∧ PySem.W.excIn K C bmB newId = true ∧ mg x = some (.ref C) ∧ PySem.W.keepIn K (.ref C) = true ∧
  PySem.W.subIn K (.ref C) (.type "BaseException") = some true ∧ PySem.W.typeIn K (.ref C) = some (.type "type")
theorem rk_of (X : K.In h) (G : h.Ns mainGlobals mg) {x : Str} (c1 : (He.Fa.glo x).ok K = true) (c2 : (He.Fa.exc x).ok K = true) : RK K mg x := by
  obtain ⟨a, b, c, d⟩ := He.exc_ok c2
  exact ⟨_, He.veBase, _, _, _, PySem.F.excBase_ValueError, a, He.glo_ok X G c1, b, c, d⟩
theorem gl_int (X : K.In h) (G : h.Ns mainGlobals mg) {x : Str} {i : Int} (c : (He.Fa.int x i).ok K = true) : GlobOk mg x (.int i) := by
  obtain ⟨t, e⟩ := He.int_ok X G c
  exact ⟨_, .int i, e, ⟨t, rfl⟩, fun T H => .mkInt⟩
theorem gl_str (X : K.In h) (G : h.Ns mainGlobals mg) {x z : Str} (hz : z.length ≤ sizeLine) (c : (He.Fa.str x z).ok K = true) : GlobOk mg x (.str z) := by
  obtain ⟨t, e⟩ := He.str_ok X G c
  exact ⟨_, .str z, e, ⟨t, rfl⟩, fun T H => .mkStr hz⟩
def gdB (K : PySem.W.Frag) (x : Str) (kvs : List (Int × Int)) : Bool := kdiB K (He.ga K x) kvs
def GD (K : PySem.W.Frag) (mg : Str → Option Value) (x : Str) (kvs : List (Int × Int)) : Prop := ∃ a, mg x = some (.ref a) ∧ kdiB K a kvs = true
theorem gd_of (X : K.In h) (G : h.Ns mainGlobals mg) {x : Str} {kvs : List (Int × Int)} (c1 : (He.Fa.glo x).ok K = true) (c2 : gdB K x kvs = true) : GD K mg x kvs := ⟨_, He.glo_ok X G c1, c2⟩
end
section
variable {P : Program} {w : World} {K : PySem.W.Frag} {mg : Str → Option Value} {base : Heap}
theorem def_okS {x : Str} {st : Stmt} {N ps : List Str} {body : Sts Unit} {j : Nat} (F : DefAt K mg x st) (S : FnScope N ps (defScope st)) (fr : ∀ x ∈ bltNames, mg (Str.ofString x) = none) (hb : ∀ f fd, FnD K x (defArgs st) (defBody st) (defScope st) f fd → Binds K fd ps [])
    (hc : (chSs N none (defScope st) [] [] body (defBody st)).isSome = true) (nd : ∀ A, Room j A → NeedSs ⟨P, w, K, mg, base, A⟩ k0 body) : FnG P w K mg base (j + 1) x (defP N.length body) ps.length := by
  obtain ⟨f, fd, F, hx⟩ := F
  obtain ⟨lv, e⟩ := Option.isSome_iff_exists.mp hc
  exact def_ok F S fr hx (hb f fd F) e nd
theorem defD_okS {x : Str} {st : Stmt} {N ps : List Str} {body : Sts (List Int)} {j n : Nat} (F : DefAt K mg x st) (S : FnScope N ps (defScope st)) (fr : ∀ x ∈ bltNames, mg (Str.ofString x) = none) (hb : ∀ f fd, FnD K x (defArgs st) (defBody st) (defScope st) f fd → Binds K fd ps [])
    (hn : ps.length = n + 1) (hc : (chSs N (some 0) (defScope st) [] [] body (defBody st)).isSome = true) (nd : ∀ A, Room j A → ∀ a, NeedSs ⟨P, w, K, mg, base, A⟩ (kR 0 a) body) : FnGD P w K mg base (j + 1) x (defD N.length body) n := by
  obtain ⟨f, fd, F, hx⟩ := F
  obtain ⟨lv, e⟩ := Option.isSome_iff_exists.mp hc
  exact defD_ok F S fr hx (hb f fd F) hn e nd
theorem FnG.mono {x : Str} {m : List PyData → R PyData} {n i j : Nat} (h : FnG P w K mg base i x m n) (hl : i ≤ j) : FnG P w K mg base j x m n := by
  obtain ⟨f, fd, ps, F, r⟩ := h
  exact ⟨f, fd, ps, F.mono hl, r⟩
/-- a def that calls itself: nothing is promised of it ahead of the first round -/
theorem FnG.bad {x : Str} {st : Stmt} {ps : List Str} {n : Nat} (F : DefAt K mg x st) (hb : ∀ f fd, FnD K x (defArgs st) (defBody st) (defScope st) f fd → Binds K fd ps []) (hn : ps.length = n) : FnG P w K mg base 0 x (fun _ => .bad) n := by
  obtain ⟨f, fd, F, hx⟩ := F
  refine ⟨f, fd, ps, ⟨fun vs H Q E h => ?_, fun A outer s H args us vs Q E _ _ _ _ h => ?_⟩, hx, F.kp, hb f fd F⟩
  · rw [hn]; exact h.1
  · obtain ⟨_, _, _, _, _, h⟩ := h
    exact h.elim
/-- the whole look at the def that makes the draws -/
def drB (N : List Str) (sc : Scope) (bd : List Stmt) (p1 p2 p3 : Sts Unit) (cell : Nat) (l1 li : List Nat) : Bool := match cutFor "script" bd with
  | some (pre, etg, lb, rest) => decide (chSs N (some 0) sc [] [] p1 pre = some (some l1)) && (match chSs N (some 0) sc li li p2 lb with
    | some lb2 => subO li lb2
    | none => false) && (chSs N (some 0) sc li [] p3 rest).isSome && subB li l1 && tgB N sc (.nm cell) etg && decide (cell ≠ 0) && !li.contains cell && visB sc "script" && decide (N[0]? = some ("script" : Str))
  | none => false
theorem draws_okB {st : Stmt} {N : List Str} {p1 p2 p3 : Sts Unit} {cell : Nat} {l1 li : List Nat} (F : DefAt K mg "_law_draws" st) (S : FnScope N ["script"] (defScope st)) (fr : ∀ x ∈ bltNames, mg (Str.ofString x) = none) (hb : ∀ f fd, FnD K "_law_draws" (defArgs st) (defBody st) (defScope st) f fd → Binds K fd ["script"] [])
    (h : drB N (defScope st) (defBody st) p1 p2 p3 cell l1 li = true) (nd : ∀ A, Room 0 A → ∀ a, NeedSs ⟨P, w, K, mg, base, A⟩ (kA a) p1 ∧ NeedSs ⟨P, w, K, mg, base, A⟩ (kA a) p2 ∧ NeedSs ⟨P, w, K, mg, base, A⟩ (kA a) p3)
    (sem : ∀ ns : List Int, ns.length ≤ 63 → ∃ st : List Int, drawsR N.length cell p1 p2 p3 ns = .ok (.ret (.list (st.map PyData.int)), ()) ∧ st.length ≤ sizeLine) :
    ∃ f fd, FnOk P w K mg base (L2.CX P w) 1 f fd ["script"] (spDr K) ∧ mg "_law_draws" = some (.ref f) ∧ PySem.W.keepIn K (.ref f) = true ∧ Binds K fd ["script"] [] := by
  obtain ⟨f, fd, F, hx⟩ := F
  unfold drB at h
  split at h
  · rename_i pre etg lb rest hcut
    simp only [Bool.and_eq_true, decide_eq_true_eq, Bool.not_eq_true'] at h
    obtain ⟨⟨⟨⟨⟨⟨⟨⟨a1, a2⟩, a3⟩, a4⟩, a5⟩, a6⟩, a7⟩, a8⟩, a9⟩ := h
    split at a2
    · rename_i lb2 hlb
      obtain ⟨l3, e3⟩ := Option.isSome_iff_exists.mp a3
      exact ⟨f, fd, draws_ok F S fr hcut a1 hlb e3 a4 a2 a5 a6 a7 a8 a9 nd sem, hx, F.kp, hb f fd F⟩
    · cases a2
  · cases h
def lwB (N : List Str) (sc : Scope) (bd : List Stmt) (body : Sts (List Int)) : Bool := match lawB bd with
  | some rest => (chSs N (some 1) sc [] [] body rest).isSome && decide (N[0]? = some ("script" : Str)) && decide (N[1]? = some ("draws" : Str)) && visB sc "script" && locB sc "draws" && glB sc "_law_draws"
  | none => false
theorem law_okB {st : Stmt} {N : List Str} {body : Sts (List Int)} {j : Nat} {f : Addr} {fd : FuncData} (F : FnD K "law" (defArgs st) (defBody st) (defScope st) f fd) (S : FnScope N ["script"] (defScope st)) (fr : ∀ x ∈ bltNames, mg (Str.ofString x) = none)
    (FD : ∃ f fd, FnOk P w K mg base (L2.CX P w) 1 f fd ["script"] (spDr K) ∧ mg "_law_draws" = some (.ref f) ∧ PySem.W.keepIn K (.ref f) = true ∧ Binds K fd ["script"] []) (hj : 1 ≤ j)
    (h : lwB N (defScope st) (defBody st) body = true) (nd : ∀ A, Room j A → ∀ a, NeedSs ⟨P, w, K, mg, base, A⟩ (kR 1 a) body)
    (sem : ∀ st : List Int, ∃ st', runs body (List.replicate N.length none) st = .ok (.ret (.bool true), st')) : FnOk P w K mg base (L2.CX P w) (j + 1) f fd ["script"] (spLaw K) := by
  obtain ⟨fD, fdD, D1, D2, D3, D4⟩ := FD
  unfold lwB at h
  split at h
  · rename_i rest hb
    simp only [Bool.and_eq_true, decide_eq_true_eq] at h
    obtain ⟨⟨⟨⟨⟨a1, a2⟩, a3⟩, a4⟩, a5⟩, a6⟩ := h
    obtain ⟨l, e⟩ := Option.isSome_iff_exists.mp a1
    exact law_ok F S fr D1 D2 D3 D4 hj hb a2 a3 a4 a5 a6 e nd sem
  · cases h
end
end Mir

set_option Elab.async false
set_option linter.all false
set_option maxRecDepth 100000
set_option maxHeartbeats 4000000
/-! Mir, part T: a def that is one try, whose clause tells the flags of what it caught. -/
namespace Mir
open PySem PySem.Spec PyProof.Rows L2

/-- isinstance(e, X1), isinstance(e, X2), .. -/
def isiB (sc : Scope) (v : Str) : List Str → List Expr → Bool
  | [], [] => true
  | c :: cs, .Call (.Name i _) [.Name e _, .Name y _] [] _ :: es => decide (("isinstance" : Str) = i) && decide (v = e) && decide (c = y) && glB sc y && isiB sc v cs es
  | _, _ => false
/-- the classes that are asked about: what they answer to an exception of the class D -/
def IsiOk (K : PySem.W.Frag) (mg : Str → Option Value) (D : Addr) : List Str → List Bool → Prop
  | [], [] => True
  | c :: cs, b :: bs => (∃ C, mg c = some (.ref C) ∧ PySem.W.kitOne K (.ref D) (.ref C) = some b) ∧ IsiOk K mg D cs bs
  | _, _ => False
theorem call_isP {X : Cx} {a D : Addr} {oe : Obj} (C : ExcC X.K D) (hz : Zc (.ref D) none oe) (hf : ∃ vs, oe.data = .fields vs) (hp : (a, oe) ∈ X.pn) : CallR X (.builtin "isinstance") (rIsE X.K D a) := by
  intro pins s σ H xs us Q I r h
  obtain ⟨c, cv, b, rfl, hcv, e, q⟩ := h
  match us, r with
  | [_, _], .cons rx (.cons rt .nil) =>
    cases rx
    have ec := hcv _ rt
    subst ec
    obtain ⟨hget, _⟩ := I.pin (a, oe) (List.mem_append_left _ hp)
    obtain ⟨vs, hv⟩ := hf
    have J : PySem.W.InstAt s.heap a oe D none := by
      obtain ⟨h1, h2⟩ := hz
      refine ⟨hget, h1, ?_, ?_⟩
      · unfold PySem.W.notCls; rw [hv]
      · rw [h2]; trivial
    exact PySem.W.kia_one (PySem.W.handS_kitx_exc C.hg C.hk C.hs C.hd C.ha C.hn C.ht C.hm) I.kIn J e (fun z => nomatch z) fun tk => ⟨.bl b, H, I.kept (t' := tk) fun _ _ z => z, rfl, q⟩
section
variable {X : Cx} {N : List Str} {sc : Scope} {a D : Addr} {oe : Obj} {v : Str}
/-- the row of flags -/
theorem isi_ok (hN : X.N = N) (hsc : X.env.scope = sc) (hv : N[0]? = some v) (hvis : visB sc v = true) (hpl : plainName v = true) (hg : glB sc "isinstance" = true) (hf : X.mg "isinstance" = none) (C : ExcC X.K D) (hz : Zc (.ref D) none oe) (hfd : ∃ vs, oe.data = .fields vs) (hp : (a, oe) ∈ X.pn) :
    ∀ (cs : List Str) (bs : List Bool) (es : List Expr), isiB sc v cs es = true → IsiOk X.K X.mg D cs bs → ∀ (σ : L2.St) (H : Hp) (Q : List V → Hp → Prop), σ[0]? = some (some (.ref a)) → Q (bs.map V.bl) H → wA X es σ H Q
  | [], bs, es, h, k, σ, H, Q, hs, q => by
    match bs, es, h, k with
    | [], [], _, _ => exact pa_nil.w q
    | [], _ :: _, h, _ => cases h
    | _ :: _, _, _, k => exact k.elim
  | c :: cs, bs, es, h, k, σ, H, Q, hs, q => by
    match bs, k with
    | [], k => exact k.elim
    | b :: bs, ⟨⟨A, hA, hk⟩, k⟩ =>
      unfold isiB at h
      split at h
      · rename_i z; cases z
      · rename_i c' cs' i p1 e p2 y p3 p4 es' heq
        cases heq
        simp only [Bool.and_eq_true, decide_eq_true_eq] at h
        obtain ⟨⟨⟨⟨rfl, rfl⟩, rfl⟩, h4⟩, h5⟩ := h
        have g1 := glB_ok hsc hg
        have g2 := glB_ok hsc h4
        have pv : PE X (.Name v p2) (tVar 0) := pe_var (by rw [hN]; exact hv) (visB_ok hsc hvis) (plainName_ok hpl).1 (plainName_ok hpl).2
        have pc : PE X (.Name c p3) (tC (.ref A)) := pe_glob g2.1 hA rfl g2.2
        have pcall := pe_callB (p := p1) (pos := p4) (call_isP C hz hfd hp) g1.1 hf (by decide +kernel) (pa_cons pv (pa_cons pc pa_nil))
        refine (pa_cons pcall pa_w).w ?_
        refine ⟨.ref a, hs, .ref A, .ref A, b, rfl, fun u r => r, hk, ?_⟩
        exact isi_ok hN hsc hv hvis hpl hg hf C hz hfd hp cs bs es' h5 k σ H _ hs q
      · cases h
end
/-- is that the text of the def that tells the flags? -/
def flagsB (N : List Str) (sc : Scope) (v : Str) (cls : List Str) (bd : List Stmt) : Bool := match bd with
  | [.Return (some (.List es _)) _] => isiB sc v cls es && visB sc v && plainName v && glB sc "isinstance" && decide (N[0]? = some v) && decide (N.length = 1)
  | _ => false
section
variable {P : Program} {w : World} {K : PySem.W.Frag} {mg : Str → Option Value} {base : Heap} {N : List Str} {x v : Str} {pr : Arguments} {bd : List Stmt} {sc : Scope} {f : Addr} {fd : FuncData} {cls : List Str} {bs : List Bool} {D : Addr}
/-- the flags of the exception that is held -/
theorem flags_call (F : FnD K x pr bd sc f fd) (S : FnScope N [v] sc) (hb : Binds K fd [v] []) (h : flagsB N sc v cls bd = true) (hf : mg "isinstance" = none) (C : ExcC K D) (hi : IsiOk K mg D cls bs) (hbl : bs.length ≤ 1000)
    {A : Around} {outer : List PySem.Env} {s : Shared} {H : Hp} {Q : VK} {E : XK} {p : Addr × Obj} (dp : A.depth < recursionLimit) (hz : Zc (.ref D) none p.2) (hfd : ∃ vs, p.2.data = .fields vs) (hpin : L2H.PinOk outer H s p) (e0 : Env0 P w K mg base A outer s H)
    (hQ : ∀ T, H T = none → Q (.ref T) (upd H T (.lst (bs.map V.bl)))) : codeAny (model P w) A (.call (.ref f) ⟨[.ref p.1], []⟩) (CR (L2.CX P w) outer P w H s Q E) s := by
  obtain ⟨oc, od, dV, kV, doc, pm, an, cdv, ct, osl, rfl, lk, hcd, _, _⟩ := F.ex
  have KX : K.In s.heap := e0.mod.kin.keeps fun b o e => (e0.bs b o e).1
  have lim : s.heap.NoLimit := e0.mod.nolimit.keeps fun b o e => (e0.bs b o e).1
  have hkind : ∀ y ∈ [v].zip [Value.ref p.1], sc.names.lookup y.1 = some .local ∨ (sc.names.lookup y.1 = some .cell ∧ ((cellsFrom (s.heap.objs.size + 1) sc.names []).lookup y.1).isSome = true) := fun ⟨n, z⟩ hy => by
    rcases S.par n (List.of_mem_zip hy).1 with q | q
    · exact .inl q
    · exact .inr ⟨q, PySem.W.cellsFrom_some _ _ _ (.inl q)⟩
  have bd1 := hb s [.ref p.1] KX rfl
  rw [List.append_nil] at bd1
  refine codeAny_call_function dp (KX _ _ lk) rfl S.co S.gen rfl (PySem.W.codeRec_of KX hcd) (bd1 _ _ _ _ ?_)
  refine wpAny_newFunctionEnv_cells S.kind hkind fun env he s1 z => ?_
  subst he
  refine ⟨lim.keeps z.toInCall.keep, codeAny_func ?_⟩
  have rv : Vals [V.ref p.1] [Value.ref p.1] := .cons rfl .nil
  have I := L2H.inv_startH (CX := L2.CX P w) (qual := x) (f := f) (cd := cdv) (E := E) S hpin e0 rfl rv z
  unfold flagsB at h
  split at h
  · rename_i es p1 p2
    simp only [Bool.and_eq_true, decide_eq_true_eq] at h
    obtain ⟨⟨⟨⟨⟨h1, h2⟩, h3⟩, h4⟩, h5⟩, h6⟩ := h
    have go := (pss_one (ps_ret (pos := p2) (pe_lst (pos := p1) (pa_w (X := L2H.cxH (L2.CX P w) P w K mg base N x sc f cdv A outer s H E p) (es := es)))))
    refine wpAny_mono (go.run [] s1 (L2.start N [V.ref p.1]) H { nx := fun _ H' => Q .non H', rt := Q } I ?_) (fun fl s' hs => ?_) fun e s' hs => hs
    · refine isi_ok (X := L2H.cxH (L2.CX P w) P w K mg base N x sc f cdv A outer s H E p) (a := p.1) (oe := p.2) rfl rfl h5 h2 h3 h4 hf C hz hfd (.head _) cls bs es h1 hi _ H _ ?_ ?_
      · show (L2.start N [V.ref p.1])[0]? = _
        unfold L2.start
        rfl
      · exact ⟨by rw [List.length_map]; show _ ≤ 2 ^ 24; omega, hQ⟩
    · have fin : ∀ {σ' : L2.St} {H' : Hp} {y : V} {u : Value}, Inv (L2H.cxH (L2.CX P w) P w K mg base N x sc f cdv A outer s H E p) [] σ' H' s' → RelV y u → Q y H' → CE outer P w H s Q u s' :=
        fun {σ' H' y u} J ry q => ⟨y, H', J.os, J.bare, J.base, J.hok, ry, q⟩
      cases fl with
      | ret u =>
        obtain ⟨y, σ', H', J, ry, q⟩ := hs
        exact fin J ry q
      | next =>
        obtain ⟨σ', H', J, q⟩ := hs
        exact fin (y := V.non) (u := Value.none) J rfl q
      | brk =>
        obtain ⟨_, _, _, q⟩ := hs
        exact q.elim
      | cont =>
        obtain ⟨_, _, _, q⟩ := hs
        exact q.elim
  · cases h
end
section
variable {X : Cx} {N : List Str} {x v n : Str} {pr : Arguments} {bd : List Stmt} {sc : Scope} {f : Addr} {fd : FuncData} {cls : List Str} {bs : List Bool} {D a : Addr} {oe : Obj} {i : Nat} {p1 p2 pos : Pos}
/-- flags(e) in the clause -/
theorem pe_flags (F : FnD X.K x pr bd sc f fd) (S : FnScope N [v] sc) (hb : Binds X.K fd [v] []) (h : flagsB N sc v cls bd = true) (hf : X.mg "isinstance" = none) (C : ExcC X.K D) (hi : IsiOk X.K X.mg D cls bs) (hbl : bs.length ≤ 1000)
    (dp : X.A.depth < recursionLimit) (hz : Zc (.ref D) none oe) (hfd : ∃ vs, oe.data = .fields vs) (hp : (a, oe) ∈ X.pn) (hg : Gl X x) (hdb : (x == ("__debug__" : Str)) = false) (hm : X.mg x = some (.ref f))
    (hN : X.N[i]? = some n) (hv : Vis X.env.scope n) (hpl : plainName n = true) :
    PE X (.Call (.Name x p1) [.Name n p2] [] pos) (fun σ H Q => σ[i]? = some (some (.ref a)) ∧ ∀ T, H T = none → Q (.ref T) (upd H T (.lst (bs.map V.bl)))) := by
  have pv : PE X (.Name n p2) (tVar i) := pe_var hN hv (plainName_ok hpl).1 (plainName_ok hpl).2
  have pa := pa_cons pv pa_nil
  refine ⟨fun pins s σ H Q I hq => ?_⟩
  obtain ⟨hs, hQ⟩ := hq
  refine wpAny_Call_Name_kw (ld_glob I hg hm ?_ hdb)
  have run := pa.run pos pins s σ H (fun vs H1 => vs = [.ref a] ∧ H1 = H) I ⟨_, hs, rfl, rfl⟩
  refine PySem.W.callWith_K (h₀ := X.base) I.ok.mod.kin F.kp (thn run fun us s1 ⟨vs, H1, I1, r, e1, e2⟩ => ⟨I1.kIn, ?_⟩) (by rfl) (by rfl)
  subst e1 e2
  cases r with
  | cons rx rr =>
    cases rr
    cases rx
    have P1 := I1.pin (a, oe) (List.mem_append_left _ hp)
    have hpin : L2H.PinOk X.stack H1 s1 (a, oe) := ⟨P1.1, P1.2.1, fun hm => (List.mem_cons.mp (I1.stkSub a hm)).elim P1.2.2.1 P1.2.2.2.1, P1.2.2.2.2⟩
    have fc : codeAny (model X.prog X.w) X.A (.call (.ref f) ⟨[.ref a], []⟩) (CR (L2.CX X.prog X.w) X.stack X.prog X.w H1 s1 Q fun _ _ _ => False) s1 :=
      flags_call (p := (a, oe)) F S hb h hf C hi hbl dp hz hfd hpin I1.env0 hQ
    refine wpAny_call (codeAny_mono fc fun rr s' hq => ?_)
    cases rr with
    | error e =>
      have hq : L2.CX X.prog X.w X.stack H1 s1 (fun _ _ _ => False) e s' := hq
      obtain ⟨_, _, _, _, _, _, _, _, _, _, _, _, z⟩ := hq
      exact z.elim
    | ok fl =>
      cases fl with
      | ret u => exact I1.after hq
      | next => exact (show False from hq).elim
      | brk => exact (show False from hq).elim
      | cont => exact (show False from hq).elim
end
/-- try: .., except sup as n: return flags(n) -/
def tryOf : List Stmt → Option (List Stmt × Str × Str × Str)
  | [.Try tb [.ExceptHandler (some (.Name s _)) (some n) [.Return (some (.Call (.Name g _) [.Name m _] [] _)) _] _] [] [] _] => if n = m then some (tb, s, n, g) else none
  | _ => none
/-- its meaning -/
def toldP (n : Nat) (body : Sts Unit) (tab : List (Str × List Bool)) (args : List PyData) : R PyData := match defP n body args with
  | .exc x _ => (match tab.lookup x with
    | some bs => .ok (.list (bs.map PyData.bool))
    | none => .bad)
  | r => r
/-- what the classes answer -/
structure XTab (K : PySem.W.Frag) (mg : Str → Option Value) (sup : Str) (cls : List Str) (tab : List (Str × List Bool)) : Prop where
  sup : ∃ S, mg sup = some (.ref S) ∧ PySem.W.subIn K (.ref S) (.type "BaseException") = some true ∧ PySem.W.hasDictIn K S = true ∧ PySem.W.typeIn K (.ref S) = some (.type "type") ∧
    ∀ x bs, tab.lookup x = some bs → ∃ D, mg x = some (.ref D) ∧ ExcC K D ∧ PySem.W.subIn K (.ref D) (.ref S) = some true ∧ IsiOk K mg D cls bs ∧ bs.length ≤ 1000
section
variable {P : Program} {w : World} {K : PySem.W.Frag} {mg : Str → Option Value} {base : Heap} {N Ng ps : List Str} {x vg : Str} {pr prg : Arguments} {bd bdg tb : List Stmt} {sc scg : Scope} {f fg : Addr} {fd fdg : FuncData} {cls : List Str} {sup n g : Str} {tab : List (Str × List Bool)} {body : Sts Unit} {lv2 : Option (List Nat)} {j i : Nat}
theorem told_ok (F : FnD K x pr bd sc f fd) (S : FnScope N ps sc) (fr : ∀ x ∈ bltNames, mg (Str.ofString x) = none) (hx : mg x = some (.ref f)) (hb : Binds K fd ps [])
    (Fg : FnD K g prg bdg scg fg fdg) (Sg : FnScope Ng [vg] scg) (hxg : mg g = some (.ref fg)) (hbg : Binds K fdg [vg] []) (hfl : flagsB Ng scg vg cls bdg = true) (T0 : XTab K mg sup cls tab)
    (ht : tryOf bd = some (tb, sup, n, g)) (hN : N[i]? = some n) (hk : sc.names.lookup n = some .local) (hpl : plainName n = true) (hs : glB sc sup = true) (hgg : glB sc g = true)
    (hc : chSs N none sc [] [] body tb = some lv2) (nd : ∀ A, Room j A → NeedSs ⟨P, w, K, mg, base, A⟩ k0 body) : FnG P w K mg base (j + 1) x (toldP N.length body tab) ps.length := by
  unfold tryOf at ht
  split at ht
  · rename_i tb' s p1 n' g' p2 m p3 p4 p5 p6 p7
    split at ht
    · rename_i hnm
      cases ht
      subst hnm
      obtain ⟨Sup, u1, u2, u3, u4, u5⟩ := T0.sup
      refine ⟨f, fd, ps, F.ok S (fun vs H Q E h => h.1) fun cdv A outer s H vs Q E hr h => ?_, hx, F.kp, hb⟩
      have gs := glB_ok (X := cxOf (L2.CX P w) P w K mg base N x sc f cdv A outer s H E) (sp := sc) rfl hs
      have gg := glB_ok (X := cxOf (L2.CX P w) P w K mg base N x sc f cdv A outer s H E) (sp := sc) rfl hgg
      refine ⟨_, pss_one (ps_try_as (X := cxOf (L2.CX P w) P w K mg base N x sc f cdv A outer s H E) (i := i) (c := .ref Sup)
        (tb := fun W D σ H1 => ∀ pn xe, Takes ((cxOf (L2.CX P w) P w K mg base N x sc f cdv A outer s H E).tr pn xe) W → PassesOwn (model P w) (cxOf (L2.CX P w) P w K mg base N x sc f cdv A outer s H E).A (cxOf (L2.CX P w) P w K mg base N x sc f cdv A outer s H E).env xe → wSs ((cxOf (L2.CX P w) P w K mg base N x sc f cdv A outer s H E).tr pn xe) tb D σ H1)
        (ts := fun a cl d D σ H1 => ∀ oe pn, Zc cl d oe → (∃ vs, oe.data = .fields vs) → wSs ((cxOf (L2.CX P w) P w K mg base N x sc f cdv A outer s H E).suite a ((a, oe) :: pn)) [.Return (some (.Call (.Name g p2) [.Name n p3] [] p4)) p5] D σ H1)
        (Wout := fun cls d _ H => E cls d H) rfl rfl S.nd hN hk ⟨gs.1, gs.2, .inl u1⟩ (takes_of rfl rfl rfl rfl)
        (fun W pn xe tk hp => ⟨fun pins s σ H D I h => h pn xe tk hp pins s I⟩) (fun a oe cl d pn hz hfd => ⟨fun pins s σ H D I h => h oe pn hz hfd pins s I⟩)), ?_⟩
      intro pn xe tk hp
      obtain ⟨hl, T, ds, dm, r, h⟩ := h
      have g0 := xs_of (P := P) (w := w) (K := K) (mg := mg) (base := base) (k := k0) (qual := x) (f := f) (cd := cdv) (outer := outer) (H := H) (E := E) (ds := none) S fr hr rfl
      have g1 : XS ((cxOf (L2.CX P w) P w K mg base N x sc f cdv A outer s H E).tr pn xe) k0 N none sc := { n := g0.n, nd := g0.nd, sc := g0.sc, calm := g0.calm, room := g0.room, free := g0.free, slot := g0.slot, passes := hp, fn := g0.fn }
      have en := env_start (N := N) r dm (by rw [hl]; exact FnScope.le S)
      refine chSs_ok g1 body [] [] tb lv2 (nd _ hr) hc T H _ _ _ () _ H _ _ (fun i hi => by cases hi) en tk ?_
      unfold toldP defP pureR runDef bnd R.bind at h
      cases hr2 : runs body (ds.map some ++ List.replicate (N.length - ds.length) none) () with
      | bad => rw [hr2] at h; exact h
      | ok q =>
        obtain ⟨fl, st⟩ := q
        rw [hr2] at h
        cases fl with
        | nx ρ => exact fun l hl σ H' O hO e => h .non H' .mkNone e.ext
        | ret d => exact fun v H' rv e _ => h v H' rv e
        | brk ρ => exact h.elim
        | cnt ρ => exact h.elim
      | exc y l =>
        rw [hr2] at h
        intro cl dx σ H' hxc e
        obtain ⟨m1, m2, m3⟩ := hxc
        cases q : tab.lookup y with
        | none =>
          simp only [q] at h
        | some bs =>
          simp only [q] at h
          obtain ⟨D, v1, v2, v3, v4, v5⟩ := u5 y bs q
          have ecl : cl = .ref D := Option.some.inj (m1.symm.trans v1)
          subst ecl m3
          refine ⟨true, PySem.W.exm_ref u2 u3 u4 v3, fun _ a ha oe pn' hz hfd => ?_, fun z => nomatch z⟩
          intro pins s2 I
          have hlen := I.len
          have hiN : i < (σ.set i (some (V.ref a))).length := by
            rw [hlen]
            exact (List.getElem?_eq_some_iff.mp hN).1
          have pf := pe_flags (X := (cxOf (L2.CX P w) P w K mg base N x sc f cdv A outer s H E).suite a ((a, oe) :: pn')) (p1 := p2) (p2 := p3) (pos := p4) (a := a) (oe := oe) (i := i) (n := n) Fg Sg hbg hfl (fr "isinstance" (by decide)) v2 v4 v5
            (Nat.lt_of_le_of_lt (show (A.deeper (envOfC x sc s.heap.objs.size f cdv)).depth ≤ _ from Nat.le_trans (Nat.le_add_right _ (3 * j)) (Nat.le_add_right _ 5)) hr.dp) hz hfd (.head _) gg.1 gg.2 hxg hN (.inl hk) hpl
          refine (pss_one (ps_ret (pos := p5) pf)).run pins s2 _ _ _ I ⟨?_, fun T2 hT2 => ?_⟩
          · rw [List.getElem?_set_self (by rw [List.length_set] at hiN; exact hiN)]
          · refine h (.ref T2) _ (.mkList (fun t => ?_) (upd_same ..) (by rw [List.length_map]; show _ ≤ 2 ^ 24; omega) ?_) (e.trans (.laid hT2))
            · obtain ⟨o, ho, _⟩ := dm _ t
              rw [e _ o (fun z => z) ho] at hT2
              cases hT2
            · have : ∀ bs : List Bool, RepL T (upd H' T2 (.lst (bs.map V.bl))) (bs.map PyData.bool) (bs.map V.bl) := fun bs => by
                generalize upd H' T2 (.lst (bs.map V.bl)) = HH
                induction bs with
                | nil => exact .nil
                | cons b bs ih => exact .cons .mkBool ih
              exact this bs
    · cases ht
  · cases ht
end
/-! ### from the head -/
def excCB (K : PySem.W.Frag) (D : Addr) : Bool :=
  He.eqO (PySem.W.findIn K (.ref D) "__getattribute__") (some (some (.builtin "BaseException.__getattribute__"))) && (He.eqO (PySem.W.findIn K (.ref D) "__getattr__") (some none) && (decide (PySem.W.subIn K (.ref D) (.type "BaseException") = some true) && (PySem.W.hasDictIn K D &&
  (He.eqO (PySem.W.findIn K (.ref D) "__class__") (some (some (.builtin "object.__class__"))) && (He.eqO (PySem.W.specialIn K (.builtin "object.__class__") "__get__") (some (some (.builtin "getset_descriptor.__get__"))) && (decide (PySem.W.takesIn K (.builtin "object.__class__") = some true) && decide (PySem.W.mroIn K D (.type "object") = some true)))))))
theorem excCB_ok {K : PySem.W.Frag} {D : Addr} (h : excCB K D = true) : ExcC K D := by
  unfold excCB at h
  simp only [Bool.and_eq_true, decide_eq_true_eq] at h
  obtain ⟨h1, h2, h3, h4, h5, h6, h7, h8⟩ := h
  exact ⟨He.eqO_ok h1, He.eqO_ok h2, h3, h4, He.eqO_ok h5, He.eqO_ok h6, h7, h8⟩
def isiAll (K : PySem.W.Frag) (D : Addr) : List Str → List Bool → Bool
  | [], [] => true
  | c :: cs, b :: bs => decide (PySem.W.kitOne K (.ref D) (.ref (He.ga K c)) = some b) && isiAll K D cs bs
  | _, _ => false
def xtB (K : PySem.W.Frag) (sup : Str) (cls : List Str) (tab : List (Str × List Bool)) : Bool :=
  decide (PySem.W.subIn K (.ref (He.ga K sup)) (.type "BaseException") = some true) && (PySem.W.hasDictIn K (He.ga K sup) && (decide (PySem.W.typeIn K (.ref (He.ga K sup)) = some (.type "type")) &&
  tab.all fun p => excCB K (He.ga K p.1) && (decide (PySem.W.subIn K (.ref (He.ga K p.1)) (.ref (He.ga K sup)) = some true) && (isiAll K (He.ga K p.1) cls p.2 && decide (p.2.length ≤ 1000)))))
theorem isiAll_ok {K : PySem.W.Frag} {mg : Str → Option Value} {D : Addr} : ∀ (cs : List Str) (bs : List Bool), (∀ x ∈ cs, mg x = some (.ref (He.ga K x))) → isiAll K D cs bs = true → IsiOk K mg D cs bs
  | [], [], _, _ => trivial
  | [], _ :: _, _, h => by cases h
  | _ :: _, [], _, h => by cases h
  | c :: cs, b :: bs, hm, h => by
    unfold isiAll at h
    simp only [Bool.and_eq_true, decide_eq_true_eq] at h
    exact ⟨⟨_, hm c (.head _), h.1⟩, isiAll_ok cs bs (fun x hx => hm x (.tail _ hx)) h.2⟩
theorem mem_lookup {β : Type} : ∀ {l : List (Str × β)} {x : Str} {b : β}, l.lookup x = some b → (x, b) ∈ l
  | [], _, _, h => by cases h
  | (y, c) :: l, x, b, h => by
    rw [List.lookup_cons] at h
    split at h
    · rename_i e
      cases h
      rw [beq_iff_eq] at e
      rw [e]; exact .head _
    · exact .tail _ (mem_lookup h)
theorem xtab_of {K : PySem.W.Frag} {mg : Str → Option Value} {sup : Str} {cls : List Str} {tab : List (Str × List Bool)} (g : ∀ x ∈ sup :: (cls ++ tab.map (·.1)), mg x = some (.ref (He.ga K x))) (c : xtB K sup cls tab = true) : XTab K mg sup cls tab := by
  unfold xtB at c
  simp only [Bool.and_eq_true, decide_eq_true_eq, List.all_eq_true] at c
  obtain ⟨c1, c2, c3, c4⟩ := c
  refine ⟨_, g sup (.head _), c1, c2, c3, fun x bs h => ?_⟩
  have hm := mem_lookup h
  obtain ⟨d1, d2, d3, d4⟩ := c4 _ hm
  exact ⟨_, g x (.tail _ (List.mem_append_right _ (List.mem_map_of_mem (f := (·.1)) hm))), excCB_ok d1, d2, isiAll_ok cls bs (fun y hy => g y (.tail _ (List.mem_append_left _ hy))) d3, d4⟩
def toldB (N : List Str) (sc : Scope) (bd : List Stmt) (body : Sts Unit) (sup n g : Str) (i : Nat) : Bool := match tryOf bd with
  | some (tb, s, n', g') => decide (s = sup) && (decide (n' = n) && (decide (g' = g) && ((chSs N none sc [] [] body tb).isSome && (decide (N[i]? = some n) && (decide (sc.names.lookup n = some .local) && (plainName n && (glB sc sup && glB sc g)))))))
  | none => false
theorem told_okS {P : Program} {w : World} {K : PySem.W.Frag} {mg : Str → Option Value} {base : Heap} {x g sup n vg : Str} {st stg : Stmt} {N Ng ps : List Str} {body : Sts Unit} {j i : Nat} {cls : List Str} {tab : List (Str × List Bool)} (F : DefAt K mg x st) (S : FnScope N ps (defScope st)) (fr : ∀ x ∈ bltNames, mg (Str.ofString x) = none)
    (hb : ∀ f fd, FnD K x (defArgs st) (defBody st) (defScope st) f fd → Binds K fd ps []) (Fg : DefAt K mg g stg) (Sg : FnScope Ng [vg] (defScope stg)) (hbg : ∀ f fd, FnD K g (defArgs stg) (defBody stg) (defScope stg) f fd → Binds K fd [vg] []) (hfl : flagsB Ng (defScope stg) vg cls (defBody stg) = true) (T0 : XTab K mg sup cls tab)
    (hc : toldB N (defScope st) (defBody st) body sup n g i = true) (nd : ∀ A, Room j A → NeedSs ⟨P, w, K, mg, base, A⟩ k0 body) : FnG P w K mg base (j + 1) x (toldP N.length body tab) ps.length := by
  obtain ⟨f, fd, F, hx⟩ := F
  obtain ⟨fg, fdg, Fg, hxg⟩ := Fg
  unfold toldB at hc
  split at hc
  · rename_i tb s n' g' ht
    simp only [Bool.and_eq_true, decide_eq_true_eq] at hc
    obtain ⟨rfl, rfl, rfl, h1, h2, h3, h4, h5, h6⟩ := hc
    obtain ⟨lv, e⟩ := Option.isSome_iff_exists.mp h1
    exact told_ok F S fr hx (hb f fd F) Fg Sg hxg (hbg fg fdg Fg) hfl T0 ht h2 h3 h4 h5 h6 e nd
  · cases hc
end Mir

set_option Elab.async false
set_option linter.all false
set_option maxRecDepth 100000
/-! Plain part A: what a text of Mir does, whatever the draws. -/
namespace Mir
open PySem

/-- it goes well or raises what X allows, whatever the state, and Q holds of what comes -/
def SatE {S α : Type} (X : Str → Prop) (m : M S α) (Q : α → Prop) : Prop := ∀ s, (∃ a s', m s = .ok (a, s') ∧ Q a) ∨ ∃ x l, m s = .exc x l ∧ X x
def NoE : Str → Prop := fun _ => False
abbrev Sat {S α : Type} (m : M S α) (Q : α → Prop) : Prop := SatE NoE m Q
section
variable {S α β : Type} {X : Str → Prop} {ρ : Env} {Q : PyData → Prop} {F : Fl → Prop}
theorem SatE.get {m : M S α} {Q : α → Prop} (h : Sat m Q) (s : S) : ∃ a s', m s = .ok (a, s') ∧ Q a := (h s).elim id fun ⟨_, _, _, z⟩ => z.elim
theorem sat_bnd {m : M S α} {f : α → M S β} {Q : β → Prop} (h : SatE X m fun a => SatE X (f a) Q) : SatE X (bnd m f) Q := fun s => by
  rcases h s with ⟨a, s', e, h⟩ | ⟨x, l, e, h⟩
  · rw [bnd_ok e]; exact h s'
  · exact .inr ⟨x, l, by unfold bnd; rw [e]; rfl, h⟩
theorem sat_ret {a : α} {Q : α → Prop} (h : Q a) : SatE (S := S) X (ret a) Q := fun s => .inl ⟨a, s, rfl, h⟩
theorem sat_lft {r : R α} {a : α} {Q : α → Prop} (e : r = .ok a) (h : Q a) : SatE (S := S) X (lft r) Q := fun s => .inl ⟨a, s, by unfold lft; rw [e]; rfl, h⟩
theorem sat_exc {r : R α} {x : Str} {l : List PyData} {Q : α → Prop} (e : r = .exc x l) (h : X x) : SatE (S := S) X (lft r) Q := fun s => .inr ⟨x, l, by unfold lft; rw [e]; rfl, h⟩
theorem sat_nx {m : M S α} {Q : α → Prop} (h : Sat m Q) : SatE X (nx m) Q := fun s => by
  obtain ⟨a, s', e, h⟩ := h.get s
  exact .inl ⟨a, s', by unfold nx; rw [e], h⟩
theorem SatE.imp {m : M S α} {Q Q' : α → Prop} (h : SatE X m Q) (i : ∀ a, Q a → Q' a) : SatE X m Q' := fun s => by
  rcases h s with ⟨a, s', e, h⟩ | h
  · exact .inl ⟨a, s', e, i a h⟩
  · exact .inr h
theorem SatE.wide {m : M S α} {Q : α → Prop} (h : Sat m Q) : SatE X m Q := fun s => .inl (h.get s)
/-! expressions -/
theorem sat_v {i : Nat} (h : ∃ d, getV ρ i = .ok d ∧ Q d) : SatE X (ev (S := S) (.v i) ρ) Q := sat_lft h.choose_spec.1 h.choose_spec.2
theorem sat_int {i : Int} (h : Q (.int i)) : SatE X (ev (S := S) (.int i) ρ) Q := sat_ret h
theorem sat_bl {b : Bool} (h : Q (.bool b)) : SatE X (ev (S := S) (.bl b) ρ) Q := sat_ret h
theorem sat_non (h : Q .none) : SatE X (ev (S := S) .non ρ) Q := sat_ret h
theorem sat_str {x : Str} (hx : decide (x.length ≤ sizeLine) = true) (h : Q (.str x)) : SatE X (ev (S := S) (.str x) ρ) Q := by
  show SatE X (if x.length ≤ sizeLine then ret (.str x) else lft .bad) Q
  rw [if_pos (of_decide_eq_true hx)]
  exact sat_ret h
theorem sat_glob {x : Str} {d : PyData} (h : Q d) : SatE X (ev (S := S) (.glob x d) ρ) Q := sat_ret h
theorem sat_bin {op : Operator} {a b : E S} (h : SatE X (ev a ρ) fun x => SatE X (ev b ρ) fun y => SatE X (lft (S := S) (binD op x y)) Q) : SatE X (ev (.bin op a b) ρ) Q := by
  unfold ev
  exact sat_bnd (h.imp fun _ h => sat_bnd h)
theorem sat_cmp {op : CmpOp} {a b : E S} (h : SatE X (ev a ρ) fun x => SatE X (ev b ρ) fun y => SatE X (lft (S := S) (cmpD op x y)) Q) : SatE X (ev (.cmp op a b) ρ) Q := by
  unfold ev
  exact sat_bnd (h.imp fun _ h => sat_bnd h)
theorem sat_neg {a : E S} (h : SatE X (ev a ρ) fun x => ∃ i, x = .int i ∧ Q (.int (-i))) : SatE X (ev (.neg a) ρ) Q := by
  unfold ev
  exact sat_bnd (h.imp fun _ h => by
    obtain ⟨i, rfl, h⟩ := h
    exact sat_lft rfl h)
theorem sat_not {a : E S} (h : SatE X (ev a ρ) fun x => Q (.bool (!truthy x))) : SatE X (ev (.not_ a) ρ) Q := by
  unfold ev
  exact sat_bnd (h.imp fun _ h => sat_ret h)
theorem sat_one {a : E S} (h : SatE X (ev a ρ) Q) : SatE X (ev (.one a) ρ) Q := h
theorem sat_and {a b : E S} (h : SatE X (ev a ρ) fun x => if truthy x = true then SatE X (ev b ρ) Q else Q x) : SatE X (ev (.and_ a b) ρ) Q := by
  unfold ev
  exact sat_bnd (h.imp fun x h => by
    show SatE X (if truthy x = true then ev b ρ else ret x) Q
    split at h <;> rename_i g
    · rw [if_pos g]; exact h
    · rw [if_neg g]; exact sat_ret h)
theorem sat_or {a b : E S} (h : SatE X (ev a ρ) fun x => if truthy x = true then Q x else SatE X (ev b ρ) Q) : SatE X (ev (.or_ a b) ρ) Q := by
  unfold ev
  exact sat_bnd (h.imp fun x h => by
    show SatE X (if truthy x = true then ret x else ev b ρ) Q
    split at h <;> rename_i g
    · rw [if_pos g]; exact sat_ret h
    · rw [if_neg g]; exact h)
theorem sat_cond {c a b : E S} (h : SatE X (ev c ρ) fun x => if truthy x = true then SatE X (ev a ρ) Q else SatE X (ev b ρ) Q) : SatE X (ev (.ite c a b) ρ) Q := by
  unfold ev
  exact sat_bnd (h.imp fun x h => by
    show SatE X (if truthy x = true then ev a ρ else ev b ρ) Q
    split at h <;> rename_i g
    · rw [if_pos g]; exact h
    · rw [if_neg g]; exact h)
theorem sat_chain {o1 o2 : CmpOp} {a b c : E S} (h : SatE X (ev a ρ) fun x => SatE X (ev b ρ) fun y => SatE X (lft (S := S) (cmpD o1 x y)) fun z => if truthy z = true then SatE X (ev c ρ) fun w => SatE X (lft (S := S) (cmpD o2 y w)) Q else Q z) : SatE X (ev (.chain o1 o2 a b c) ρ) Q :=
  sat_bnd (h.imp fun x h => sat_bnd (h.imp fun y h => sat_bnd (h.imp fun z h => by
    show SatE X (if truthy z = true then bnd (ev c ρ) fun w => lft (cmpD o2 y w) else ret z) Q
    split at h <;> rename_i g
    · rw [if_pos g]; exact sat_bnd h
    · rw [if_neg g]; exact sat_ret h)))
theorem sat_tup {es : Es S} (h : SatE X (evs es ρ) fun xs => xs.length ≤ sizeLine ∧ Q (.tuple xs)) : SatE X (ev (.tup es) ρ) Q := by
  unfold ev
  exact sat_bnd (h.imp fun xs h => by
    show SatE X (if xs.length ≤ sizeLine then ret (.tuple xs) else lft .bad) Q
    rw [if_pos h.1]; exact sat_ret h.2)
theorem sat_lst {es : Es S} (h : SatE X (evs es ρ) fun xs => xs.length ≤ sizeLine ∧ Q (.list xs)) : SatE X (ev (.lst es) ρ) Q := by
  unfold ev
  exact sat_bnd (h.imp fun xs h => by
    show SatE X (if xs.length ≤ sizeLine then ret (.list xs) else lft .bad) Q
    rw [if_pos h.1]; exact sat_ret h.2)
theorem sat_dict0 (h : Q (.dict [])) : SatE X (ev (S := S) .dict0 ρ) Q := sat_ret h
theorem sat_sub {a i : E S} (h : SatE X (ev a ρ) fun x => SatE X (ev i ρ) fun y => SatE X (lft (S := S) (subD x y)) Q) : SatE X (ev (.sub a i) ρ) Q := by
  unfold ev
  exact sat_bnd (h.imp fun _ h => sat_bnd h)
theorem sat_slL {a lo : E S} (h : SatE X (ev a ρ) fun x => SatE X (ev lo ρ) fun l => ∃ i, l = .int i ∧ SatE X (lft (S := S) (cutX x (some i) none)) Q) : SatE X (ev (.slL a lo) ρ) Q := by
  unfold ev
  exact sat_bnd (h.imp fun x h => sat_bnd (h.imp fun l h => by
    obtain ⟨i, rfl, h⟩ := h
    exact h))
theorem sat_slH {a hi : E S} (h : SatE X (ev a ρ) fun x => SatE X (ev hi ρ) fun l => ∃ i, l = .int i ∧ SatE X (lft (S := S) (cutX x none (some i))) Q) : SatE X (ev (.slH a hi) ρ) Q := by
  unfold ev
  exact sat_bnd (h.imp fun x h => sat_bnd (h.imp fun l h => by
    obtain ⟨i, rfl, h⟩ := h
    exact h))
theorem sat_sl {a lo hi : E S} (h : SatE X (ev a ρ) fun x => SatE X (ev lo ρ) fun l => ∃ i, l = .int i ∧ SatE X (ev hi ρ) fun u => ∃ j, u = .int j ∧ SatE X (lft (S := S) (cutX x (some i) (some j))) Q) : SatE X (ev (.sl a lo hi) ρ) Q := by
  unfold ev
  exact sat_bnd (h.imp fun x h => sat_bnd (h.imp fun l h => by
    obtain ⟨i, rfl, h⟩ := h
    refine sat_bnd (sat_lft rfl (sat_bnd (h.imp fun u h => ?_)))
    obtain ⟨j, rfl, h⟩ := h
    exact h))
theorem sat_call {nm : Str} {m : List PyData → R PyData} {es : Es S} (h : SatE X (evs es ρ) fun xs => SatE X (lft (S := S) (m xs)) Q) : SatE X (ev (.call nm m es) ρ) Q := sat_bnd h
theorem sat_callS {nm : Str} {m : List PyData → S → R (PyData × S)} {es : Es S} (h : SatE X (evs es ρ) fun xs => SatE X (m xs) Q) : SatE X (ev (.callS nm m es) ρ) Q := sat_bnd h
theorem sat_blt {f : B} {es : Es S} (h : SatE X (evs es ρ) fun xs => SatE X (lft (S := S) (bltD f xs)) Q) : SatE X (ev (.blt f es) ρ) Q := sat_bnd h
theorem sat_isa {t : Ty} {a : E S} (h : SatE X (ev a ρ) fun x => Q (.bool (isaD t x))) : SatE X (ev (.isa t a) ρ) Q := by
  unfold ev
  exact sat_bnd (h.imp fun _ h => sat_ret h)
theorem sat_subG {x : Str} {kvs : List (Int × Int)} {i : E S} (h : SatE X (ev i ρ) fun y => SatE X (lft (S := S) (subGD kvs y)) Q) : SatE X (ev (.subG x kvs i) ρ) Q := sat_bnd h
theorem sat_op1 {f : O1} {a : E S} (h : SatE X (ev a ρ) fun x => SatE X (lft (S := S) (op1D f x)) Q) : SatE X (ev (.op1 f a) ρ) Q := sat_bnd h
theorem sat_op2 {f : O2} {a b : E S} (h : SatE X (ev a ρ) fun x => ok2 f x = true ∧ SatE X (ev b ρ) fun y => SatE X (lft (S := S) (op2D f x y)) Q) : SatE X (ev (.op2 f a b) ρ) Q := by
  unfold ev
  exact sat_bnd (h.imp fun x h => by
    show SatE X (if ok2 f x = true then bnd (ev b ρ) fun y => lft (op2D f x y) else lft .bad) Q
    rw [if_pos h.1]; exact sat_bnd h.2)
theorem sat_nil {Q : List PyData → Prop} (h : Q []) : SatE X (evs (S := S) .nil ρ) Q := sat_ret h
theorem sat_cons {a : E S} {r : Es S} {Q : List PyData → Prop} (h : SatE X (ev a ρ) fun x => SatE X (evs r ρ) fun xs => Q (x :: xs)) : SatE X (evs (.cons a r) ρ) Q := by
  unfold evs
  exact sat_bnd (h.imp fun _ h => sat_bnd (h.imp fun _ h => sat_ret h))
/-! walks -/
theorem sat_of {a : E S} {Q : List PyData → Prop} (h : SatE X (ev a ρ) fun x => SatE X (lft (S := S) (itemsR x)) Q) : SatE X (evIt (.of a) ρ) Q := sat_bnd h
theorem sat_range1 {a : E S} {Q : List PyData → Prop} (h : SatE X (ev a ρ) fun x => ∃ n : Int, x = .int n ∧ n ≤ sizeLine ∧ -(2 ^ 62) ≤ n ∧ Q (rangeD 0 n.toNat)) : SatE X (evIt (.range1 a) ρ) Q := by
  unfold evIt
  exact sat_bnd (h.imp fun x h => by
    obtain ⟨n, rfl, h1, h2, h⟩ := h
    refine sat_lft ?_ h
    show (if n ≤ sizeLine ∧ -(2 ^ 62) ≤ n then R.ok (rangeD 0 n.toNat) else .bad) = _
    rw [if_pos ⟨h1, h2⟩])
theorem sat_range2 {a b : E S} {Q : List PyData → Prop} (h : SatE X (ev a ρ) fun x => SatE X (ev b ρ) fun y => ∃ lo hi : Int, x = .int lo ∧ y = .int hi ∧ (-(2 ^ 62) ≤ lo ∧ lo < 2 ^ 62 ∧ -(2 ^ 62) ≤ hi ∧ hi < 2 ^ 62 ∧ (hi - lo).toNat ≤ sizeLine) ∧ Q (rangeD lo (hi - lo).toNat)) : SatE X (evIt (.range2 a b) ρ) Q := by
  unfold evIt
  exact sat_bnd (h.imp fun x h => sat_bnd (h.imp fun y h => by
    obtain ⟨lo, hi, rfl, rfl, h1, h⟩ := h
    refine sat_lft ?_ h
    show (if -(2 ^ 62) ≤ lo ∧ lo < 2 ^ 62 ∧ -(2 ^ 62) ≤ hi ∧ hi < 2 ^ 62 ∧ (hi - lo).toNat ≤ sizeLine then R.ok (rangeD lo (hi - lo).toNat) else .bad) = _
    rw [if_pos h1]))
theorem sat_zip {a b : E S} {Q : List PyData → Prop} (h : SatE X (ev a ρ) fun x => SatE X (ev b ρ) fun y => SatE X (lft (S := S) (zipD x y)) Q) : SatE X (evIt (.zip a b) ρ) Q := by
  unfold evIt
  exact sat_bnd (h.imp fun _ h => sat_bnd h)
theorem sat_enum {a : E S} {Q : List PyData → Prop} (h : SatE X (ev a ρ) fun x => SatE X (lft (S := S) (enumD x)) Q) : SatE X (evIt (.enum a) ρ) Q := sat_bnd h
theorem sat_sign {a : E S} {Q : List PyData → Prop} (h : SatE X (ev a ρ) fun x => SatE X (lft (S := S) (signD x)) Q) : SatE X (evIt (.sign a) ρ) Q := sat_bnd h
/-! comprehensions -/
/-- what is asked of each element of a walk -/
def LcF (S : Type) (elt : E S) (tg : Tg) (c : E S) (ρ : Env) (x : PyData) (G : Option PyData → Prop) : Prop := Sat (lft (S := S) (asg tg x ρ)) fun ρ' => Sat (ev c ρ') fun t => if truthy t = true then Sat (ev elt ρ') fun y => G (some y) else G none
theorem lcf_ok {elt : E S} {tg : Tg} {c : E S} {ρ : Env} {x : PyData} {G : Option PyData → Prop} (h : LcF S elt tg c ρ x G) :
    SatE X (nx (bnd (lft (asg tg x ρ)) fun ρ' => bnd (ev c ρ') fun t => if truthy t = true then bnd (ev elt ρ') fun y => ret (some y) else ret none)) G := sat_nx (sat_bnd (h.imp fun ρ' h => sat_bnd (h.imp fun t h => by
  split at h <;> rename_i g
  · rw [if_pos g]; exact sat_bnd (h.imp fun y h => sat_ret h)
  · rw [if_neg g]; exact sat_ret h)))
theorem lcGo_ok {f : PyData → M S (Option PyData)} {g : PyData → Option PyData} : ∀ xs : List PyData, (∀ x ∈ xs, SatE X (f x) (· = g x)) → SatE X (lcGo f xs) (· = xs.filterMap g)
  | [], _ => sat_ret rfl
  | x :: xs, h => sat_bnd ((h x (.head _)).imp fun o e => sat_bnd ((lcGo_ok xs fun y hy => h y (.tail _ hy)).imp fun r e2 => sat_ret (by
      subst e; subst e2
      cases q : g x with
      | none => rw [List.filterMap_cons_none q]
      | some y => rw [List.filterMap_cons_some q])))
theorem lcGo_any {f : PyData → M S (Option PyData)} {P : PyData → Prop} : ∀ xs : List PyData, (∀ x ∈ xs, SatE X (f x) (fun o => ∃ y, o = some y ∧ P y)) → SatE X (lcGo f xs) (fun ys => ys.length = xs.length ∧ ∀ y ∈ ys, P y)
  | [], _ => sat_ret ⟨rfl, fun _ h => nomatch h⟩
  | x :: xs, h => sat_bnd ((h x (.head _)).imp fun o e => sat_bnd ((lcGo_any xs fun y hy => h y (.tail _ hy)).imp fun r e2 => sat_ret (by
      obtain ⟨y, rfl, hy⟩ := e
      exact ⟨congrArg Nat.succ e2.1, fun z hz => by
        cases hz with
        | head => exact hy
        | tail _ hz => exact e2.2 z hz⟩)))
/-- a comprehension whose elements are told by g -/
theorem sat_lc {elt : E S} {tg : Tg} {it : It S} {c : E S} {own : List (Str × Nat)} (g : PyData → Option PyData) (h : SatE X (evIt it ρ) fun xs => (∀ x ∈ xs, LcF S elt tg c (wipeE ρ (own.map (·.2))) x (· = g x)) ∧ Q (.list (xs.filterMap g))) : SatE X (ev (.lc elt tg it c own) ρ) Q :=
  sat_bnd (h.imp fun xs h => sat_bnd ((lcGo_ok xs fun x hx => lcf_ok (h.1 x hx)).imp fun ys e => sat_ret (e ▸ h.2)))
/-- a comprehension whose elements are of a kind -/
theorem sat_lcA {elt : E S} {tg : Tg} {it : It S} {c : E S} {own : List (Str × Nat)} (P : PyData → Prop) (h : SatE X (evIt it ρ) fun xs => (∀ x ∈ xs, LcF S elt tg c (wipeE ρ (own.map (·.2))) x (fun o => ∃ y, o = some y ∧ P y)) ∧ ∀ ys : List PyData, ys.length = xs.length → (∀ y ∈ ys, P y) → Q (.list ys)) : SatE X (ev (.lc elt tg it c own) ρ) Q :=
  sat_bnd (h.imp fun xs h => sat_bnd ((lcGo_any xs fun x hx => lcf_ok (h.1 x hx)).imp fun ys e => sat_ret (h.2 ys e.1 e.2)))
/-! statements -/
/-- what follows -/
def Kx (r : Sts S) (F : Fl → Prop) : Fl → Prop
  | .nx ρ' => SatE X (runs r ρ') F
  | .ret d => F (.ret d)
  | .brk ρ' => F (.brk ρ')
  | .cnt ρ' => F (.cnt ρ')
theorem sat_end (h : F (.nx ρ)) : SatE X (runs (S := S) .nil ρ) F := sat_ret h
theorem sat_st {a : St S} {r : Sts S} (h : SatE X (run a ρ) (Kx (X := X) r F)) : SatE X (runs (.cons a r) ρ) F := by
  unfold runs
  exact sat_bnd (h.imp fun fl h => by
    cases fl with
    | nx ρ' => exact h
    | ret d => exact sat_ret h
    | brk ρ' => exact sat_ret h
    | cnt ρ' => exact sat_ret h)
theorem kx_nx {r : Sts S} (h : SatE X (runs r ρ) F) : Kx (X := X) r F (.nx ρ) := h
theorem kx_ret {r : Sts S} {d : PyData} (h : F (.ret d)) : Kx (X := X) r F (.ret d) := h
theorem kx_brk {r : Sts S} (h : F (.brk ρ)) : Kx (X := X) r F (.brk ρ) := h
theorem kx_cnt {r : Sts S} (h : F (.cnt ρ)) : Kx (X := X) r F (.cnt ρ) := h
theorem sat_set {i : Nat} {own : Bool} {e : E S} (h : SatE X (ev e ρ) fun d => F (.nx (ρ.set i (some d)))) : SatE X (run (.set i own false e) ρ) F := by
  unfold run
  exact sat_bnd (h.imp fun d h => by
    rw [if_pos (Or.inl rfl)]; exact sat_ret h)
theorem sat_setT {i : Nat} {own : Bool} {e : E S} (h : SatE X (ev e ρ) fun d => immK own d = true ∧ F (.nx (ρ.set i (some d)))) : SatE X (run (.set i own true e) ρ) F := by
  unfold run
  exact sat_bnd (h.imp fun d h => by
    rw [if_pos (Or.inr h.1)]; exact sat_ret h.2)
theorem sat_asg {is : List Nat} {e : E S} (h : SatE X (ev e ρ) fun d => SatE X (lft (S := S) (asg (.tup is) d ρ)) fun ρ' => F (.nx ρ')) : SatE X (run (.asg is false e) ρ) F := by
  unfold run
  exact sat_bnd (h.imp fun d h => by
    rw [if_pos (Or.inl rfl)]; exact sat_bnd (h.imp fun ρ' h => sat_ret h))
theorem sat_par {is : List Nat} {ks : List Bool} {es : Es S} (h : SatE X (evs es ρ) fun ds => ds.length = is.length ∧ F (.nx (setAll is ds ρ))) : SatE X (run (.par is ks false es) ρ) F := by
  unfold run
  exact sat_bnd (h.imp fun d h => by
    rw [if_pos ⟨h.1, Or.inl rfl⟩]; exact sat_ret h.2)
theorem sat_app {i : Nat} {e : E S} (h : ∃ xs, getL ρ i = .ok xs ∧ SatE X (ev e ρ) fun d => xs.length < sizeLine ∧ F (.nx (ρ.set i (some (.list (xs ++ [d])))))) : SatE X (run (.app i false e) ρ) F := by
  obtain ⟨x, g, h⟩ := h
  unfold run
  exact sat_bnd (sat_lft g (sat_bnd (h.imp fun d h => by
    rw [if_pos ⟨Or.inl rfl, h.1⟩]; exact sat_ret h.2)))
theorem sat_setItem {i : Nat} {ix e : E S} (h : ∃ x, getV ρ i = .ok x ∧ SatE X (ev e ρ) fun d => SatE X (ev ix ρ) fun k => SatE X (lft (S := S) (setItemD x k d)) fun y => F (.nx (ρ.set i (some y)))) : SatE X (run (.setItem i false ix e) ρ) F := by
  obtain ⟨x, g, h⟩ := h
  unfold run
  exact sat_bnd (h.imp fun d h => by
    rw [if_pos (Or.inl rfl)]
    exact sat_bnd (sat_lft g (sat_bnd (h.imp fun k h => sat_bnd (h.imp fun y h => sat_ret h)))))
theorem sat_aug {i : Nat} {op : Operator} {e : E S} (h : ∃ x, getV ρ i = .ok x ∧ SatE X (ev e ρ) fun d => SatE X (lft (S := S) (augD op x d)) fun y => F (.nx (ρ.set i (some y)))) : SatE X (run (.aug i op e) ρ) F :=
  by obtain ⟨x, g, h⟩ := h; unfold run; exact sat_bnd (sat_lft g (sat_bnd (h.imp fun d h => sat_bnd (h.imp fun y h => sat_ret h))))
theorem sat_expr {e : E S} (h : SatE X (ev e ρ) fun _ => F (.nx ρ)) : SatE X (run (.expr e) ρ) F := by
  unfold run
  exact sat_bnd (h.imp fun _ h => sat_ret h)
theorem sat_retE {e : E S} (h : SatE X (ev e ρ) fun d => F (.ret d)) : SatE X (run (.ret e) ρ) F := by
  unfold run
  exact sat_bnd (h.imp fun _ h => sat_ret h)
theorem sat_retN (h : F (.ret .none)) : SatE X (run (S := S) .retN ρ) F := sat_ret h
theorem sat_pass (h : F (.nx ρ)) : SatE X (run (S := S) .pass ρ) F := sat_ret h
theorem sat_brk (h : F (.brk ρ)) : SatE X (run (S := S) .brk ρ) F := sat_ret h
theorem sat_cnt (h : F (.cnt ρ)) : SatE X (run (S := S) .cnt ρ) F := sat_ret h
theorem sat_if {c : E S} {a b : Sts S} (h : SatE X (ev c ρ) fun t => if truthy t = true then SatE X (runs a ρ) F else SatE X (runs b ρ) F) : SatE X (run (.ite c a b) ρ) F := by
  unfold run
  exact sat_bnd (h.imp fun t h => by
    show SatE X (if truthy t = true then runs a ρ else runs b ρ) F
    split at h <;> rename_i g
    · rw [if_pos g]; exact h
    · rw [if_neg g]; exact h)
/-- what a round of a loop has to do -/
def Rnd (I : Env → Prop) (F : Fl → Prop) : Fl → Prop
  | .nx ρ => I ρ
  | .cnt ρ => I ρ
  | .brk ρ => F (.nx ρ)
  | .ret d => F (.ret d)
theorem rnd_nx {I : Env → Prop} (h : I ρ) : Rnd I F (.nx ρ) := h
theorem rnd_cnt {I : Env → Prop} (h : I ρ) : Rnd I F (.cnt ρ) := h
theorem rnd_brk {I : Env → Prop} (h : F (.nx ρ)) : Rnd I F (.brk ρ) := h
theorem rnd_ret {I : Env → Prop} {d : PyData} (h : F (.ret d)) : Rnd I F (.ret d) := h
theorem forGo_ok {f : PyData → Env → M S Fl} : ∀ (xs : List PyData) (I : Nat → Env → Prop) {ρ : Env}, I 0 ρ → (∀ k (hk : k < xs.length) ρ, I k ρ → SatE X (f xs[k] ρ) (Rnd (I (k + 1)) F)) → (∀ ρ, I xs.length ρ → F (.nx ρ)) → SatE X (forGo f xs ρ) F
  | [], I, ρ, h0, _, he => sat_ret (he _ h0)
  | x :: xs, I, ρ, h0, h, he => sat_bnd ((h 0 (Nat.zero_lt_succ _) ρ h0).imp fun fl g => by
      have rest : ∀ ρ, I 1 ρ → SatE X (forGo f xs ρ) F := fun ρ g => forGo_ok xs (fun k => I (k + 1)) g (fun k hk ρ i => h (k + 1) (Nat.succ_lt_succ hk) ρ i) he
      cases fl with
      | nx ρ' => exact rest _ g
      | cnt ρ' => exact rest _ g
      | brk ρ' => exact sat_ret g
      | ret d => exact sat_ret g)
theorem sat_for {li : List Nat} {tg : Tg} {it : It S} {body : Sts S} (I : List PyData → Nat → Env → Prop) (h : SatE X (evIt it ρ) fun xs => I xs 0 ρ ∧ (∀ k (hk : k < xs.length) ρ, I xs k ρ → SatE X (lft (S := S) (asg tg xs[k] ρ)) fun ρ' => SatE X (runs body ρ') (Rnd (I xs (k + 1)) F)) ∧ ∀ ρ, I xs xs.length ρ → F (.nx ρ)) : SatE X (run (.for_ li tg it body) ρ) F :=
  sat_bnd (h.imp fun xs h => forGo_ok xs (I xs) h.1 (fun k hk ρ i => sat_bnd (h.2.1 k hk ρ i)) h.2.2)
/-- how a def ends -/
def FinQ (Q : PyData → Prop) : Fl → Prop
  | .ret d => Q d
  | .nx _ => Q .none
  | _ => False
theorem fin_ret {d : PyData} (h : Q d) : FinQ Q (.ret d) := h
theorem fin_nx (h : Q .none) : FinQ Q (.nx ρ) := h
theorem defP_ok {n : Nat} {body : Sts Unit} {args : List PyData} {d : PyData} (h : Sat (runs body (args.map some ++ List.replicate (n - args.length) none)) (FinQ (· = d))) : defP n body args = .ok d := by
  obtain ⟨fl, s', e, h⟩ := h.get ()
  unfold defP runDef
  rw [bnd_ok e]
  cases fl with
  | ret x => cases h; rfl
  | nx x => cases h; rfl
  | brk x => exact h.elim
  | cnt x => exact h.elim
theorem defP_sat {n : Nat} {body : Sts Unit} {args : List PyData} {P : PyData → Prop} (h : Sat (runs body (args.map some ++ List.replicate (n - args.length) none)) (FinQ P)) : ∃ d, defP n body args = .ok d ∧ P d := by
  obtain ⟨fl, s', e, h⟩ := h.get ()
  unfold defP runDef
  rw [bnd_ok e]
  cases fl with
  | ret x => exact ⟨_, rfl, h⟩
  | nx x => exact ⟨_, rfl, h⟩
  | brk x => exact h.elim
  | cnt x => exact h.elim
theorem defD_sat {n : Nat} {body : Sts (List Int)} {args : List PyData} {P : PyData → Prop} (h : Sat (runs body (none :: (args.map some ++ List.replicate (n - 1 - args.length) none))) (FinQ P)) : Sat (defD n body args) P := by
  refine sat_bnd (h.imp fun fl h => ?_)
  cases fl with
  | ret x => exact sat_ret h
  | nx x => exact sat_ret h
  | brk x => exact h.elim
  | cnt x => exact h.elim
theorem defP_exc {n : Nat} {body : Sts Unit} {args : List PyData} {x : Str} (h : SatE (· = x) (runs body (args.map some ++ List.replicate (n - args.length) none)) fun _ => False) : ∃ l, defP n body args = .exc x l := by
  rcases h () with ⟨_, _, _, z⟩ | ⟨y, l, e, rfl⟩
  · exact z.elim
  · exact ⟨l, by unfold defP runDef bnd; rw [e]; rfl⟩
theorem sat_raise {x : Str} (h : X x) : SatE X (run (S := S) (.raise_ x) ρ) F := sat_exc rfl h
theorem sat_pick {fs : List (Str × (List PyData → R PyData))} {i : E S} {es : Es S} (h : SatE X (ev i ρ) fun x => ∃ p, pickD fs x = some p ∧ SatE X (evs es ρ) fun xs => SatE X (lft (S := S) (p.2 xs)) Q) : SatE X (ev (.pick fs i es) ρ) Q := by
  unfold ev
  exact sat_bnd (h.imp fun x h => by
    obtain ⟨p, e, h⟩ := h
    rw [e]
    exact sat_bnd h)
theorem sat_range3 {a b c : E S} {Q : List PyData → Prop} (h : SatE X (ev a ρ) fun x => SatE X (ev b ρ) fun y => SatE X (ev c ρ) fun z => ∃ i j k : Int, x = .int i ∧ y = .int j ∧ z = .int k ∧ ∃ l, range3D i j k = .ok l ∧ Q l) : SatE X (evIt (.range3 a b c) ρ) Q := by
  unfold evIt
  exact sat_bnd (h.imp fun x h => sat_bnd (h.imp fun y h => sat_bnd (h.imp fun z h => by
    obtain ⟨i, j, k, rfl, rfl, rfl, l, e, h⟩ := h
    exact sat_lft e h)))
theorem sat_revw {a : E S} {Q : List PyData → Prop} (h : SatE X (ev a ρ) fun x => SatE X (lft (S := S) (itemsR x)) fun xs => Q xs.reverse) : SatE X (evIt (.rev a) ρ) Q := by
  unfold evIt
  refine sat_bnd (h.imp fun x h => ?_)
  intro s
  rcases h s with ⟨xs, s', e, h⟩ | ⟨y, l, e, h⟩
  · refine .inl ⟨xs.reverse, s', ?_, h⟩
    unfold lft R.bind at e ⊢
    cases q : itemsR x with
    | ok ys => rw [q] at e; cases e; rfl
    | exc y l => rw [q] at e; cases e
    | bad => rw [q] at e; cases e
  · unfold lft R.bind at e
    cases q : itemsR x with
    | ok ys => rw [q] at e; cases e
    | exc y l => cases x <;> cases q
    | bad => rw [q] at e; cases e
/-- told: it goes well -/
theorem told_val {n : Nat} {body : Sts Unit} {tab : List (Str × List Bool)} {args : List PyData} {d : PyData} (h : defP n body args = .ok d) : toldP n body tab args = .ok d := by unfold toldP; rw [h]
/-- .. it raises -/
theorem told_exc {n : Nat} {body : Sts Unit} {tab : List (Str × List Bool)} {args : List PyData} {x : Str} {l : List PyData} {bs : List Bool} (h : defP n body args = .exc x l) (e : tab.lookup x = some bs) : toldP n body tab args = .ok (.list (bs.map PyData.bool)) := by
  unfold toldP; rw [h]
  show (match tab.lookup x with
    | some bs => R.ok (PyData.list (bs.map PyData.bool))
    | none => .bad) = _
  rw [e]
end
end Mir

set_option Elab.async false
set_option linter.all false
set_option maxRecDepth 100000
/-! Plain part B: operations, and the tactic that steps. -/
namespace Mir
open PySem
section
variable {S α : Type} {X : Str → Prop} {ρ : Env} {Q : PyData → Prop} {F : Fl → Prop} {A B : Prop}
theorem if_T (h : A) : (if truthy (.bool true) = true then A else B) := (if_pos (show truthy (.bool true) = true from rfl)).mpr h
theorem if_F (h : B) : (if truthy (.bool false) = true then A else B) := (if_neg (show ¬ truthy (.bool false) = true by decide)).mpr h
theorem if_bool {b : Bool} (h1 : b = true → A) (h2 : b = false → B) : (if truthy (.bool b) = true then A else B) := by
  cases b with
  | true => exact if_T (h1 rfl)
  | false => exact if_F (h2 rfl)
theorem if_dec {p : Prop} [Decidable p] (h1 : p → A) (h2 : ¬ p → B) : (if truthy (.bool (decide p)) = true then A else B) := if_bool (fun h => h1 (of_decide_eq_true h)) fun h => h2 (of_decide_eq_false h)
theorem if_decT {p : Prop} [Decidable p] (h : p) (h1 : A) : (if truthy (.bool (decide p)) = true then A else B) := if_dec (fun _ => h1) fun n => absurd h n
theorem if_decF {p : Prop} [Decidable p] (h : ¬ p) (h1 : B) : (if truthy (.bool (decide p)) = true then A else B) := if_dec (fun n => absurd n h) fun _ => h1
theorem if_not {b : Bool} (h : if truthy (.bool b) = true then B else A) : (if truthy (.bool (!b)) = true then A else B) := by
  cases b with
  | true => exact if_F (by rwa [if_pos (show truthy (.bool true) = true from rfl)] at h)
  | false => exact if_T (by rwa [if_neg (show ¬ truthy (.bool false) = true by decide)] at h)
theorem if_not' {b : Bool} (h : if truthy (.bool b) = true then B else A) : (if truthy (.bool (!truthy (.bool b))) = true then A else B) := if_not h
theorem if_rT {x : PyData} (e : truthy x = true) (h : A) : (if truthy x = true then A else B) := (if_pos e).mpr h
theorem if_rF {x : PyData} (e : truthy x = false) (h : B) : (if truthy x = true then A else B) := (if_neg (by rw [e]; decide)).mpr h
theorem if_andF {c : Bool} {m : M S PyData} (h : c = true → SatE X m (· = .bool false)) (k : Q (.bool false)) : (if truthy (.bool c) = true then SatE X m Q else Q (.bool c)) := if_bool (fun z => (h z).imp fun x e => e ▸ k) fun z => z ▸ k
theorem if_notT {x : Bool} (h : x = true) (h1 : B) : (if truthy (.bool (!x)) = true then A else B) := by subst h; exact if_F h1
theorem if_notF {x : Bool} (h : x = false) (h1 : A) : (if truthy (.bool (!x)) = true then A else B) := by subst h; exact if_T h1
theorem if_val {x : PyData} {b : Bool} (e : truthy x = b) (h : if truthy (.bool b) = true then A else B) : (if truthy x = true then A else B) := by
  have : truthy (.bool b) = b := rfl
  rw [this] at h
  rw [e]; exact h
theorem small_of {i : Int} (h : -18446744073709551616 < i ∧ i < 18446744073709551616) : small i = true := by
  unfold small
  exact decide_eq_true (by omega)
theorem sat_addI {i j : Int} (h : Q (.int (i + j))) : SatE X (lft (S := S) (binD .Add (.int i) (.int j))) Q := sat_lft rfl h
theorem sat_subI {i j : Int} (h : Q (.int (i - j))) : SatE X (lft (S := S) (binD .Sub (.int i) (.int j))) Q := sat_lft rfl h
theorem sat_mulI {i j : Int} (g : small i = true ∨ small j = true) (h : Q (.int (i * j))) : SatE X (lft (S := S) (binD .Mult (.int i) (.int j))) Q := sat_lft (by
  show (if (small i || small j) = true then R.ok (PyData.int (i * j)) else .bad) = _
  rw [if_pos (by simpa using g)]) h
theorem sat_divI {i j : Int} (g : 0 < j ∧ j < 1073741824) (h : Q (.int (i / j))) : SatE X (lft (S := S) (binD .FloorDiv (.int i) (.int j))) Q := sat_lft (by
  show (if 0 < j ∧ j < 1073741824 then R.ok (PyData.int (i / j)) else .bad) = _
  rw [if_pos g]) h
theorem sat_modI {i j : Int} (g : 0 < j) (h : Q (.int (i % j))) : SatE X (lft (S := S) (binD .Mod (.int i) (.int j))) Q := sat_lft (by
  show (if 0 < j then R.ok (PyData.int (i % j)) else .bad) = _
  rw [if_pos g]) h
theorem sat_addS {a b : Str} (g : a.length + b.length ≤ sizeLine) (h : Q (.str (a ++ b))) : SatE X (lft (S := S) (binD .Add (.str a) (.str b))) Q := sat_lft (by
  show (if a.length + b.length ≤ sizeLine then R.ok (PyData.str (a ++ b)) else .bad) = _
  rw [if_pos g]) h
theorem sat_addL {a b : List PyData} (g : a.length + b.length ≤ sizeLine) (h : Q (.list (a ++ b))) : SatE X (lft (S := S) (binD .Add (.list a) (.list b))) Q := sat_lft (by
  show (if a.length + b.length ≤ sizeLine then R.ok (PyData.list (a ++ b)) else .bad) = _
  rw [if_pos g]) h
theorem sat_addT {a b : List PyData} (g : a.length + b.length ≤ sizeLine) (h : Q (.tuple (a ++ b))) : SatE X (lft (S := S) (binD .Add (.tuple a) (.tuple b))) Q := sat_lft (by
  show (if a.length + b.length ≤ sizeLine then R.ok (PyData.tuple (a ++ b)) else .bad) = _
  rw [if_pos g]) h
theorem ltOk_int (i j : Int) : ltOk (.int i) (.int j) = true := rfl
theorem ltOk_str (i j : Str) : ltOk (.str i) (.str j) = true := rfl
theorem okD_int (i : Int) : okD (.int i) = true := rfl
theorem okD_str (i : Str) : okD (.str i) = true := rfl
theorem okD_bool (i : Bool) : okD (.bool i) = true := rfl
theorem okD_none : okD .none = true := rfl
theorem cmpD_lt (a b : PyData) : cmpD .Lt a b = if ltOk a b = true then R.ok (PyData.bool (W.dataLt a b)) else .bad := by cases a <;> cases b <;> rfl
theorem cmpD_gt (a b : PyData) : cmpD .Gt a b = if ltOk a b = true then R.ok (PyData.bool (W.dataLt b a)) else .bad := by cases a <;> cases b <;> rfl
theorem cmpD_le (a b : PyData) : cmpD .LtE a b = if ltOk a b = true then R.ok (PyData.bool (!W.dataLt b a)) else .bad := by cases a <;> cases b <;> rfl
theorem cmpD_ge (a b : PyData) : cmpD .GtE a b = if ltOk a b = true then R.ok (PyData.bool (!W.dataLt a b)) else .bad := by cases a <;> cases b <;> rfl
theorem cmpD_eq (a b : PyData) : cmpD .Eq a b = if (okD a && okD b) = true then R.ok (PyData.bool (PyData.eqv a b)) else .bad := by cases a <;> cases b <;> rfl
theorem cmpD_ne (a b : PyData) : cmpD .NotEq a b = if (okD a && okD b) = true then R.ok (PyData.bool (!PyData.eqv a b)) else .bad := by cases a <;> cases b <;> rfl
theorem sat_ltI {i j : Int} (h : Q (.bool (decide (i < j)))) : SatE X (lft (S := S) (cmpD .Lt (.int i) (.int j))) Q := sat_lft (by rw [cmpD_lt, if_pos (ltOk_int i j), W.dataLt_int]) h
theorem sat_gtI {i j : Int} (h : Q (.bool (decide (j < i)))) : SatE X (lft (S := S) (cmpD .Gt (.int i) (.int j))) Q := sat_lft (by rw [cmpD_gt, if_pos (ltOk_int i j), W.dataLt_int]) h
theorem sat_leI {i j : Int} (h : Q (.bool (decide (i ≤ j)))) : SatE X (lft (S := S) (cmpD .LtE (.int i) (.int j))) Q := sat_lft (by
  have e : (!decide (j < i)) = decide (i ≤ j) := by rw [← decide_not]; exact decide_eq_decide.mpr (by omega)
  rw [cmpD_le, if_pos (ltOk_int i j), W.dataLt_int, e]) h
theorem sat_geI {i j : Int} (h : Q (.bool (decide (j ≤ i)))) : SatE X (lft (S := S) (cmpD .GtE (.int i) (.int j))) Q := sat_lft (by
  have e : (!decide (i < j)) = decide (j ≤ i) := by rw [← decide_not]; exact decide_eq_decide.mpr (by omega)
  rw [cmpD_ge, if_pos (ltOk_int i j), W.dataLt_int, e]) h
theorem eqv_int (i j : Int) : PyData.eqv (.int i) (.int j) = decide (i = j) := by
  unfold PyData.eqv; exact (Bool.beq_eq_decide_eq i j)
theorem eqv_str (i j : Str) : PyData.eqv (.str i) (.str j) = decide (i = j) := by
  unfold PyData.eqv; exact (Bool.beq_eq_decide_eq i j)
theorem sat_eqI {i j : Int} (h : Q (.bool (decide (i = j)))) : SatE X (lft (S := S) (cmpD .Eq (.int i) (.int j))) Q := sat_lft (by rw [cmpD_eq, eqv_int]; rfl) h
theorem sat_neI {i j : Int} (h : Q (.bool (decide (i ≠ j)))) : SatE X (lft (S := S) (cmpD .NotEq (.int i) (.int j))) Q := sat_lft (by rw [cmpD_ne, eqv_int, decide_not]; rfl) h
theorem sat_eqS {i j : Str} (h : Q (.bool (decide (i = j)))) : SatE X (lft (S := S) (cmpD .Eq (.str i) (.str j))) Q := sat_lft (by rw [cmpD_eq, eqv_str]; rfl) h
theorem sat_neS {i j : Str} (h : Q (.bool (decide (i ≠ j)))) : SatE X (lft (S := S) (cmpD .NotEq (.str i) (.str j))) Q := sat_lft (by rw [cmpD_ne, eqv_str, decide_not]; rfl) h
theorem sat_neB {i j : Bool} (h : Q (.bool (decide (i ≠ j)))) : SatE X (lft (S := S) (cmpD .NotEq (.bool i) (.bool j))) Q := sat_lft (by cases i <;> cases j <;> rfl) h
theorem sat_eqB {i j : Bool} (h : Q (.bool (decide (i = j)))) : SatE X (lft (S := S) (cmpD .Eq (.bool i) (.bool j))) Q := sat_lft (by cases i <;> cases j <;> rfl) h
theorem sat_eqR {a b : PyData} (g : okD a = true) (e : a = b) (h : Q (.bool true)) : SatE X (lft (S := S) (cmpD .Eq a b)) Q := sat_lft (by
  subst e
  rw [cmpD_eq, g, PySem.SeqAt.eqv_refl_plain a (by unfold okD at g; simp only [Bool.and_eq_true] at g; exact g.1)]; rfl) h
theorem sat_neR {a b : PyData} (g : okD a = true) (e : a = b) (h : Q (.bool false)) : SatE X (lft (S := S) (cmpD .NotEq a b)) Q := sat_lft (by
  subst e
  rw [cmpD_ne, g, PySem.SeqAt.eqv_refl_plain a (by unfold okD at g; simp only [Bool.and_eq_true] at g; exact g.1)]; rfl) h
theorem sat_is {a : PyData} (h : Q (.bool (isNone a))) : SatE X (lft (S := S) (cmpD .Is a .none)) Q := sat_lft (by cases a <;> rfl) h
theorem sat_isnt {a : PyData} (h : Q (.bool (!isNone a))) : SatE X (lft (S := S) (cmpD .IsNot a .none)) Q := sat_lft (by cases a <;> rfl) h
theorem sat_abs {i : Int} (h : Q (.int (if i < 0 then -i else i))) : SatE X (lft (S := S) (bltD .abs [.int i])) Q := sat_lft rfl h
theorem sat_int_ {i : Int} (h : Q (.int i)) : SatE X (lft (S := S) (bltD .int_ [.int i])) Q := sat_lft rfl h
theorem sat_min2 {i j : Int} (h : Q (.int (if j < i then j else i))) : SatE X (lft (S := S) (bltD .min2 [.int i, .int j])) Q := sat_lft rfl h
theorem sat_max2 {i j : Int} (h : Q (.int (if j > i then j else i))) : SatE X (lft (S := S) (bltD .max2 [.int i, .int j])) Q := sat_lft rfl h
theorem sat_lenL {xs : List PyData} (h : Q (.int xs.length)) : SatE X (lft (S := S) (bltD .len [.list xs])) Q := sat_lft rfl h
theorem sat_lenT {xs : List PyData} (h : Q (.int xs.length)) : SatE X (lft (S := S) (bltD .len [.tuple xs])) Q := sat_lft rfl h
theorem sat_lenS {x : Str} (h : Q (.int x.length)) : SatE X (lft (S := S) (bltD .len [.str x])) Q := sat_lft rfl h
theorem sat_tupL {xs : List PyData} (h : Q (.tuple xs)) : SatE X (lft (S := S) (bltD .tuple_ [.list xs])) Q := sat_lft rfl h
theorem sat_listL {xs : List PyData} (h : Q (.list xs)) : SatE X (lft (S := S) (bltD .list_ [.list xs])) Q := sat_lft rfl h
theorem sat_listT {xs : List PyData} (h : Q (.list xs)) : SatE X (lft (S := S) (bltD .list_ [.tuple xs])) Q := sat_lft rfl h
theorem sat_ofL {xs : List PyData} {Q : List PyData → Prop} (h : Q xs) : SatE X (lft (S := S) (itemsR (.list xs))) Q := sat_lft rfl h
theorem sat_ofT {xs : List PyData} {Q : List PyData → Prop} (h : Q xs) : SatE X (lft (S := S) (itemsR (.tuple xs))) Q := sat_lft rfl h
theorem sat_nm {i : Nat} {d : PyData} {Q : Env → Prop} (h : Q (ρ.set i (some d))) : SatE X (lft (S := S) (asg (.nm i) d ρ)) Q := sat_lft rfl h
theorem sat_tg {is : List Nat} {ds : List PyData} {Q : Env → Prop} (hl : ds.length = is.length) (h : Q (setAll is ds ρ)) : SatE X (lft (S := S) (asg (.tup is) (.tuple ds) ρ)) Q := sat_lft (by
  show (if ds.length = is.length then R.ok (setAll is ds ρ) else .bad) = _
  rw [if_pos hl]) h
theorem sat_atL {xs : List PyData} {i : Int} {d : PyData} (hi : 0 ≤ i) (e : xs[i.toNat]? = some d) (h : Q d) : SatE X (lft (S := S) (subD (.list xs) (.int i))) Q := sat_lft (by
  show optR (L2.atI xs i) = .ok d
  rw [← Int.toNat_of_nonneg hi, L2.atI_nat e]; rfl) h
theorem sat_atT {xs : List PyData} {i : Int} {d : PyData} (hi : 0 ≤ i) (e : xs[i.toNat]? = some d) (h : Q d) : SatE X (lft (S := S) (subD (.tuple xs) (.int i))) Q := sat_lft (by
  show optR (L2.atI xs i) = .ok d
  rw [← Int.toNat_of_nonneg hi, L2.atI_nat e]; rfl) h
/-- a place of a row that stands there in full -/
theorem sat_atLc {xs : List PyData} {i : Int} {d : PyData} (e : L2.atI xs i = some d) (h : Q d) : SatE X (lft (S := S) (subD (.list xs) (.int i))) Q := sat_lft (by
  show optR (L2.atI xs i) = .ok d
  rw [e]; rfl) h
theorem sat_atTc {xs : List PyData} {i : Int} {d : PyData} (e : L2.atI xs i = some d) (h : Q d) : SatE X (lft (S := S) (subD (.tuple xs) (.int i))) Q := sat_lft (by
  show optR (L2.atI xs i) = .ok d
  rw [e]; rfl) h
theorem sat_call_exc {m : List PyData → R PyData} {xs : List PyData} {x : Str} {l : List PyData} (e : m xs = .exc x l) (h : X x) : SatE X (lft (S := S) (m xs)) Q := sat_exc e h
theorem sat_call_ok {m : List PyData → R PyData} {xs : List PyData} {d : PyData} (e : m xs = .ok d) (h : Q d) : SatE X (lft (S := S) (m xs)) Q := sat_lft e h
theorem sat_take {b : Int} (hb : 0 < b) (h : ∀ v : Int, 0 ≤ v → v < b → Q (.int v)) : SatE X (m_take [.int b]) Q := by
  intro st
  cases st with
  | nil => exact .inl ⟨_, _, rfl, h 0 (by omega) hb⟩
  | cons x r => exact .inl ⟨.int (x % b), r, by
      show (if 0 < b then R.ok (PyData.int (x % b), r) else .bad) = _
      rw [if_pos hb], h _ (Int.emod_nonneg _ (by omega)) (Int.emod_lt_of_pos _ hb)⟩
end
end Mir

set_option Elab.async false
set_option linter.all false
set_option maxRecDepth 100000
/-! Plain part C: digits and texts. -/
namespace Mir
open PySem
/-- the signs of a number's last figures -/
def dgs : Nat → Nat → List Nat
  | 0, _ => []
  | k + 1, n => dgs k (n / 10) ++ [48 + n % 10]
theorem dgs_len : ∀ k n, (dgs k n).length = k
  | 0, _ => rfl
  | k + 1, n => by show (dgs k (n / 10) ++ [48 + n % 10]).length = _; rw [List.length_append, dgs_len k]; rfl
theorem digitChar_nat (d : Nat) (h : Nat.lt d 10) : (Nat.digitChar d).toNat = 48 + d := by
  have : ∀ d : Fin 10, (Nat.digitChar d.val).toNat = 48 + d.val := by decide
  exact this ⟨d, h⟩
/-- the figures of a number that has k of them -/
theorem toDigits_dgs : ∀ (k n : Nat), 10 ^ k ≤ n → n < 10 ^ (k + 1) → (Nat.toDigits 10 n).map Char.toNat = dgs (k + 1) n
  | 0, n, _, h => by
    rw [Nat.toDigits_of_lt_base (by omega)]
    show [(Nat.digitChar n).toNat] = [48 + n % 10]
    rw [digitChar_nat n (by omega), Nat.mod_eq_of_lt (by omega)]
  | k + 1, n, h1, h2 => by
    have p : 0 < 10 ^ k := Nat.pow_pos (by decide)
    have e1 : 10 ^ (k + 1) = 10 ^ k * 10 := Nat.pow_succ ..
    have e2 : 10 ^ (k + 1 + 1) = 10 ^ (k + 1) * 10 := Nat.pow_succ ..
    rw [Nat.toDigits_of_base_le (by decide) (by omega), List.map_append, toDigits_dgs k (n / 10) (by omega) (by omega)]
    show _ = dgs (k + 1) (n / 10) ++ [48 + n % 10]
    rw [List.map_cons, List.map_nil, digitChar_nat _ (Nat.mod_lt _ (by decide))]
theorem str_nat (n : Nat) : Str.ofString (toString (Int.ofNat n)) = ⟨((Nat.toDigits 10 n).map Char.toNat).toArray⟩ := by
  rw [Str.ofString_eq_toList]
  have : (toString (Int.ofNat n)).toList = Nat.toDigits 10 n := by
    show (Nat.repr n).toList = _
    rw [Nat.toList_repr]
  rw [this]
/-- str(n), n of k + 1 figures -/
theorem str_dgs {n : Nat} (k : Nat) (h1 : 10 ^ k ≤ n) (h2 : n < 10 ^ (k + 1)) : Str.ofString (toString (n : Int)) = ⟨(dgs (k + 1) n).toArray⟩ := by
  show Str.ofString (toString (Int.ofNat n)) = _
  rw [str_nat, toDigits_dgs k n h1 h2]
theorem str_fig {n : Nat} (h : n < 10) : Str.ofString (toString (n : Int)) = ⟨#[48 + n]⟩ := by
  show Str.ofString (toString (Int.ofNat n)) = _
  rw [str_nat, Nat.toDigits_of_lt_base h]
  show (⟨[(Nat.digitChar n).toNat].toArray⟩ : Str) = _
  rw [digitChar_nat n h]
theorem sat_strI {S : Type} {X : Str → Prop} {n : Nat} {x : Str} {Q : PyData → Prop} (hn : n < 2 ^ 64) (e : Str.ofString (toString (n : Int)) = x) (h : Q (.str x)) : SatE X (lft (S := S) (bltD .str_ [.int (n : Int)])) Q := sat_lft (by
  show (if ((n : Int)).natAbs.log2 < 1920 then R.ok (PyData.str (Str.ofString (toString (n : Int)))) else .bad) = _
  have h1 : n.log2 < 1920 := by
    by_cases h0 : n = 0
    · subst h0; decide
    · exact Nat.lt_of_lt_of_le ((Nat.log2_lt h0).mpr hn) (by decide)
  rw [if_pos (by rw [Int.natAbs_natCast]; exact h1), e]) h
/-! int(..) of figures -/
theorem sat_intF {S : Type} {X : Str → Prop} {l : List Nat} {n : Nat} {Q : PyData → Prop} (h : NumText.AllDigits l) (h0 : l ≠ []) (hl : l.length ≤ 640) (e : NumText.digitsVal l = n) (g : Q (.int (n : Int))) : SatE X (lft (S := S) (bltD .int_ [.str ⟨l.toArray⟩])) Q := sat_lft (by
  show (match PySem.intText? ⟨l.toArray⟩ with
    | some n => if (⟨l.toArray⟩ : Str).length ≤ 640 then R.ok (PyData.int n) else .bad
    | none => .bad) = _
  have hs : (⟨l.toArray⟩ : Str).length = l.length := List.size_toArray ..
  rw [PySem.intText_digits (x := ⟨l.toArray⟩) h h0 (by rw [hs]; omega)]
  show (if _ then _ else _) = _
  rw [if_pos (by rw [hs]; exact hl), e]) g
/-! slices -/
theorem sIx_nat' (n d : Nat) {i : Int} (h0 : 0 ≤ i) (h1 : i ≤ n) : HT.sIx n d (some i) = i.toNat := by
  show (if i < 0 then (i + (n : Int)).toNat else min i.toNat n) = i.toNat
  rw [if_neg (by omega)]
  omega
theorem strL_len (l : List Nat) : (⟨l.toArray⟩ : Str).length = l.length := List.size_toArray ..
theorem cutS_mid {l : List Nat} {a b : Int} (h0 : 0 ≤ a) (h1 : a ≤ b) (h2 : b ≤ l.length) : Mir.cutS ⟨l.toArray⟩ (some a) (some b) = ⟨((l.drop a.toNat).take (b.toNat - a.toNat)).toArray⟩ := by
  show (⟨((l.toArray.toList.drop (HT.sIx (⟨l.toArray⟩ : Str).length 0 (some a))).take _).toArray⟩ : Str) = _
  rw [strL_len, sIx_nat' _ _ h0 (by omega), sIx_nat' _ _ (by omega) h2]
theorem cutS_lo {l : List Nat} {a : Int} (h0 : 0 ≤ a) (h2 : a ≤ l.length) : Mir.cutS ⟨l.toArray⟩ (some a) none = ⟨(l.drop a.toNat).toArray⟩ := by
  show (⟨((l.toArray.toList.drop (HT.sIx (⟨l.toArray⟩ : Str).length 0 (some a))).take (HT.sIx (⟨l.toArray⟩ : Str).length (⟨l.toArray⟩ : Str).length none - _)).toArray⟩ : Str) = _
  rw [strL_len, sIx_nat' _ _ h0 h2, HT.sIx_none, List.take_of_length_le (by simp)]
theorem cutS_hi {l : List Nat} {b : Int} (h0 : 0 ≤ b) (h2 : b ≤ l.length) : Mir.cutS ⟨l.toArray⟩ none (some b) = ⟨(l.take b.toNat).toArray⟩ := by
  show (⟨((l.toArray.toList.drop (HT.sIx (⟨l.toArray⟩ : Str).length 0 none)).take _).toArray⟩ : Str) = _
  rw [strL_len, sIx_nat' _ _ h0 h2, HT.sIx_none]
  rfl
theorem sat_cutS {S : Type} {X : Str → Prop} {l : List Nat} {a b : Int} {Q : PyData → Prop} (h0 : 0 ≤ a) (h1 : a ≤ b) (h2 : b ≤ l.length) (h : Q (.str ⟨((l.drop a.toNat).take (b.toNat - a.toNat)).toArray⟩)) : SatE X (lft (S := S) (cutX (.str ⟨l.toArray⟩) (some a) (some b))) Q := sat_lft (by
  show R.ok (PyData.str (Mir.cutS _ _ _)) = _
  rw [cutS_mid h0 h1 h2]) h
theorem sat_cutSl {S : Type} {X : Str → Prop} {l : List Nat} {a : Int} {Q : PyData → Prop} (h0 : 0 ≤ a) (h2 : a ≤ l.length) (h : Q (.str ⟨(l.drop a.toNat).toArray⟩)) : SatE X (lft (S := S) (cutX (.str ⟨l.toArray⟩) (some a) none)) Q := sat_lft (by
  show R.ok (PyData.str (Mir.cutS _ _ _)) = _
  rw [cutS_lo h0 h2]) h
theorem sat_cutSh {S : Type} {X : Str → Prop} {l : List Nat} {b : Int} {Q : PyData → Prop} (h0 : 0 ≤ b) (h2 : b ≤ l.length) (h : Q (.str ⟨(l.take b.toNat).toArray⟩)) : SatE X (lft (S := S) (cutX (.str ⟨l.toArray⟩) none (some b))) Q := sat_lft (by
  show R.ok (PyData.str (Mir.cutS _ _ _)) = _
  rw [cutS_hi h0 h2]) h
theorem cutD_mid {l : List PyData} {a b : Int} (h0 : 0 ≤ a) (h1 : a ≤ b) (h2 : b ≤ l.length) : cutD l (some a) (some b) = (l.drop a.toNat).take (b.toNat - a.toNat) := by
  show (l.drop (HT.sIx l.length 0 (some a))).take (HT.sIx l.length l.length (some b) - HT.sIx l.length 0 (some a)) = _
  rw [sIx_nat' _ _ h0 (by omega), sIx_nat' _ _ (by omega) h2]
theorem cutD_lo {l : List PyData} {a : Int} (h0 : 0 ≤ a) (h2 : a ≤ l.length) : cutD l (some a) none = l.drop a.toNat := by
  show (l.drop (HT.sIx l.length 0 (some a))).take (HT.sIx l.length l.length none - HT.sIx l.length 0 (some a)) = _
  rw [sIx_nat' _ _ h0 h2, HT.sIx_none, List.take_of_length_le (by simp)]
theorem cutD_hi {l : List PyData} {b : Int} (h0 : 0 ≤ b) (h2 : b ≤ l.length) : cutD l none (some b) = l.take b.toNat := by
  show (l.drop (HT.sIx l.length 0 none)).take (HT.sIx l.length l.length (some b) - HT.sIx l.length 0 none) = _
  rw [sIx_nat' _ _ h0 h2, HT.sIx_none]
  rfl
theorem sat_cutLh {S : Type} {X : Str → Prop} {l : List PyData} {b : Int} {Q : PyData → Prop} (h0 : 0 ≤ b) (h2 : b ≤ l.length) (h : Q (.list (l.take b.toNat))) : SatE X (lft (S := S) (cutX (.list l) none (some b))) Q := sat_lft (by
  show R.ok (PyData.list (cutD _ _ _)) = _
  rw [cutD_hi h0 h2]) h
theorem sat_cutLl {S : Type} {X : Str → Prop} {l : List PyData} {b : Int} {Q : PyData → Prop} (h0 : 0 ≤ b) (h2 : b ≤ l.length) (h : Q (.list (l.drop b.toNat))) : SatE X (lft (S := S) (cutX (.list l) (some b) none)) Q := sat_lft (by
  show R.ok (PyData.list (cutD _ _ _)) = _
  rw [cutD_lo h0 h2]) h
theorem sat_cutTh {S : Type} {X : Str → Prop} {l : List PyData} {b : Int} {Q : PyData → Prop} (h0 : 0 ≤ b) (h2 : b ≤ l.length) (h : Q (.tuple (l.take b.toNat))) : SatE X (lft (S := S) (cutX (.tuple l) none (some b))) Q := sat_lft (by
  show R.ok (PyData.tuple (cutD _ _ _)) = _
  rw [cutD_hi h0 h2]) h
theorem strA (a b : List Nat) : (⟨a.toArray⟩ : Str) ++ ⟨b.toArray⟩ = ⟨(a ++ b).toArray⟩ := by
  show (⟨a.toArray ++ b.toArray⟩ : Str) = _
  rw [List.append_toArray]
theorem sat_addSL {S : Type} {X : Str → Prop} {a b : List Nat} {Q : PyData → Prop} (g : a.length + b.length ≤ 2 ^ 24) (h : Q (.str ⟨(a ++ b).toArray⟩)) : SatE X (lft (S := S) (binD .Add (.str ⟨a.toArray⟩) (.str ⟨b.toArray⟩))) Q :=
  sat_addS (by rw [strL_len, strL_len]; exact g) (by rw [strA]; exact h)
/-! more operations -/
theorem sat_atTe {S : Type} {X : Str → Prop} {xs : List PyData} {i : Int} {Q : PyData → Prop} (h : ∃ d, L2.atI xs i = some d ∧ Q d) : SatE X (lft (S := S) (subD (.tuple xs) (.int i))) Q := by
  obtain ⟨d, e, h⟩ := h
  exact sat_atTc e h
theorem sat_atLe {S : Type} {X : Str → Prop} {xs : List PyData} {i : Int} {Q : PyData → Prop} (h : ∃ d, L2.atI xs i = some d ∧ Q d) : SatE X (lft (S := S) (subD (.list xs) (.int i))) Q := by
  obtain ⟨d, e, h⟩ := h
  exact sat_atLc e h
theorem lcf_i {S : Type} {elt : E S} {tg : Tg} {c : E S} {ρ : Env} {x : PyData} {G : Option PyData → Prop} (h : Sat (lft (S := S) (asg tg x ρ)) fun ρ' => Sat (ev c ρ') fun t => if truthy t = true then Sat (ev elt ρ') fun y => G (some y) else G none) : LcF S elt tg c ρ x G := h
theorem sat_allC {S : Type} {X : Str → Prop} {xs : List PyData} {Q : PyData → Prop} (h : Q (.bool true)) : SatE X (lft (S := S) (bltD .all_ [.list (xs.filterMap fun _ => some (PyData.bool true))])) Q := sat_lft (by
  show (if ((xs.filterMap fun _ => some (PyData.bool true)).all okD) = true then R.ok (PyData.bool ((xs.filterMap fun _ => some (PyData.bool true)).all truthy)) else .bad) = .ok (PyData.bool true)
  have e1 : (xs.filterMap fun _ => some (PyData.bool true)).all okD = true := by
    simp only [List.all_eq_true, List.mem_filterMap]
    rintro x ⟨y, _, e⟩
    cases e; rfl
  have e2 : (xs.filterMap fun _ => some (PyData.bool true)).all truthy = true := by
    simp only [List.all_eq_true, List.mem_filterMap]
    rintro x ⟨y, _, e⟩
    cases e; rfl
  rw [e1, e2]; rfl) h
theorem sat_atS {S : Type} {X : Str → Prop} {l : List Nat} {i : Int} {c : Nat} {Q : PyData → Prop} (hi : 0 ≤ i) (e : l[i.toNat]? = some c) (h : Q (.str ⟨#[c]⟩)) : SatE X (lft (S := S) (subD (.str ⟨l.toArray⟩) (.int i))) Q := sat_lft (by
  show optR ((L2.atI l i).map fun c => PyData.str ⟨#[c]⟩) = _
  rw [← Int.toNat_of_nonneg hi, L2.atI_nat e]; rfl) h
theorem sat_signS {S : Type} {X : Str → Prop} {l : List Nat} {Q : List PyData → Prop} (h : Q (l.map fun c => .str ⟨#[c]⟩)) : SatE X (lft (S := S) (signD (.str ⟨l.toArray⟩))) Q := sat_lft rfl h
theorem rangeD_get {lo : Int} {n k : Nat} (hk : k < (rangeD lo n).length) : (rangeD lo n)[k] = .int (lo + k) := by
  have h2 : k < ((List.range n).map fun (k : Nat) => PyData.int (lo + (k : Int))).length := hk
  show ((List.range n).map fun (k : Nat) => PyData.int (lo + (k : Int)))[k] = _
  rw [List.getElem_map, List.getElem_range]
theorem rangeD_len (lo : Int) (n : Nat) : (rangeD lo n).length = n := by
  unfold rangeD
  simp
theorem sat_conv {S α : Type} {X : Str → Prop} {m m' : M S α} {Q : α → Prop} (e : m = m') (h : SatE X m' Q) : SatE X m Q := e ▸ h
theorem sat_eqT {S : Type} {X : Str → Prop} {a b : PyData} {Q : PyData → Prop} (ga : okD a = true) (gb : okD b = true) (h : Q (.bool (PyData.eqv a b))) : SatE X (lft (S := S) (cmpD .Eq a b)) Q := sat_lft (by rw [cmpD_eq, ga, gb]; rfl) h
theorem sat_neT {S : Type} {X : Str → Prop} {a b : PyData} {Q : PyData → Prop} (ga : okD a = true) (gb : okD b = true) (h : Q (.bool (!PyData.eqv a b))) : SatE X (lft (S := S) (cmpD .NotEq a b)) Q := sat_lft (by rw [cmpD_ne, ga, gb]; rfl) h
/-! loops round by round -/
theorem sat_forU {S : Type} {X : Str → Prop} {ρ : Env} {F : Fl → Prop} {li : List Nat} {tg : Tg} {it : It S} {body : Sts S} (h : SatE X (evIt it ρ) fun xs => SatE X (forGo (fun x ρ => bnd (lft (Mir.asg tg x ρ)) fun ρ' => runs body ρ') xs ρ) F) : SatE X (run (.for_ li tg it body) ρ) F := by
  unfold run; exact sat_bnd h
theorem fg_nil {S : Type} {X : Str → Prop} {ρ : Env} {F : Fl → Prop} {f : PyData → Env → M S Fl} (h : F (.nx ρ)) : SatE X (forGo f [] ρ) F := sat_ret h
def Fx {S : Type} {X : Str → Prop} (f : PyData → Env → M S Fl) (xs : List PyData) (F : Fl → Prop) : Fl → Prop
  | .nx ρ => SatE X (forGo f xs ρ) F
  | .cnt ρ => SatE X (forGo f xs ρ) F
  | .brk ρ => F (.nx ρ)
  | .ret d => F (.ret d)
theorem fg_cons {S : Type} {X : Str → Prop} {ρ : Env} {F : Fl → Prop} {tg : Tg} {body : Sts S} {x : PyData} {xs : List PyData} (h : SatE X (lft (S := S) (asg tg x ρ)) fun ρ' => SatE X (runs body ρ') (Fx (X := X) (fun x ρ => bnd (lft (Mir.asg tg x ρ)) fun ρ' => runs body ρ') xs F)) :
    SatE X (forGo (fun x ρ => bnd (lft (Mir.asg tg x ρ)) fun ρ' => runs body ρ') (x :: xs) ρ) F := sat_bnd ((sat_bnd h).imp fun fl g => by
  cases fl with
  | nx ρ' => exact g
  | cnt ρ' => exact g
  | brk ρ' => exact sat_ret g
  | ret d => exact sat_ret g)
theorem fx_nx {S : Type} {X : Str → Prop} {ρ : Env} {F : Fl → Prop} {f : PyData → Env → M S Fl} {xs : List PyData} (h : SatE X (forGo f xs ρ) F) : Fx (X := X) f xs F (.nx ρ) := h
theorem fx_ret {S : Type} {X : Str → Prop} {d : PyData} {F : Fl → Prop} {f : PyData → Env → M S Fl} {xs : List PyData} (h : F (.ret d)) : Fx (X := X) f xs F (.ret d) := h
theorem sat_strF {S : Type} {X : Str → Prop} {i : Int} {Q : PyData → Prop} (g : 0 ≤ i ∧ i < 10) (h : Q (.str ⟨[48 + i.toNat].toArray⟩)) : SatE X (lft (S := S) (bltD .str_ [.int i])) Q := by
  obtain ⟨k, rfl⟩ := Int.eq_ofNat_of_zero_le g.1
  exact sat_strI (by omega) (str_fig (by omega)) h
/-! least ones -/
abbrev T2 (d : Int) (i : Int) : PyData := .tuple [.int d, .int i]
theorem t2_lt (a i b j : Int) : W.dataLt (T2 a i) (T2 b j) = (decide (a < b) || (decide (a = b) && decide (i < j))) := by
  show PyProof.Rows.lexLt PyProof.Rows.itemOrd (.inl 1 :: ([.inl a] ++ (.inl 1 :: ([.inl i] ++ [.inl 0])))) (.inl 1 :: ([.inl b] ++ (.inl 1 :: ([.inl j] ++ [.inl 0])))) = _
  simp only [List.cons_append, List.nil_append, PyProof.Rows.lex_cons]
  show (decide ((1 : Int) < 1) || (!decide ((1 : Int) < 1) && (decide (a < b) || (!decide (b < a) && (decide ((1 : Int) < 1) || (!decide ((1 : Int) < 1) && (decide (i < j) || (!decide (j < i) && (decide ((0 : Int) < 0) || (!decide ((0 : Int) < 0) && PyProof.Rows.lexLt PyProof.Rows.itemOrd [] [])))))))))) = _
  have e : PyProof.Rows.lexLt PyProof.Rows.itemOrd [] [] = false := rfl
  rw [e]
  have h1 : decide ((1 : Int) < 1) = false := by decide
  have h0 : decide ((0 : Int) < 0) = false := by decide
  rw [h1, h0]
  simp only [Bool.not_false, Bool.true_and, Bool.false_or, Bool.and_false, Bool.or_false]
  by_cases c1 : a < b
  · simp [c1]
  · by_cases c2 : b < a
    · simp [c1, c2, show ¬ a = b by omega]
    · simp [c1, c2, show a = b by omega]
/-- the first of the least of rows of pairs -/
theorem min_fold : ∀ (ds : List Int) (d i : Int) (j : Nat), i < j → ∃ (k : Nat) (m : Int), (ds.zipIdx j |>.map fun p => T2 p.1 (p.2 : Nat)).foldl (fun a y => if W.dataLt y a then y else a) (T2 d i) = T2 m (if k = 0 then i else (j + k - 1 : Nat)) ∧ k ≤ ds.length ∧ (d :: ds)[k]? = some m ∧ (∀ y ∈ d :: ds, m ≤ y) ∧ ∀ l y, l < k → (d :: ds)[l]? = some y → m < y
  | [], d, i, j, _ => ⟨0, d, rfl, Nat.le_refl _, rfl, fun y hy => by rcases List.mem_singleton.mp hy with rfl; omega, fun l _ h => absurd h (Nat.not_lt_zero _)⟩
  | x :: ds, d, i, j, h => by
    rw [List.zipIdx_cons, List.map_cons, List.foldl_cons]
    by_cases c : x < d
    · obtain ⟨k, m, e, h1, h2, h3, h4⟩ := min_fold ds x (j : Nat) (j + 1) (by omega)
      refine ⟨k + 1, m, ?_, by simpa using h1, h2, fun y hy => ?_, fun l y hl hy => ?_⟩
      · rw [if_pos (by rw [t2_lt]; simp [c]), e]
        have e1 : (if k = 0 then (j : Int) else ((j + 1 + k - 1 : Nat) : Int)) = ((j + (k + 1) - 1 : Nat) : Int) := by split <;> omega
        rw [e1, if_neg (Nat.succ_ne_zero k)]
      · cases hy with
        | head => have := h3 x (.head _); omega
        | tail _ hy => exact h3 y hy
      · cases l with
        | zero => cases hy; have := h3 x (.head _); omega
        | succ l => exact h4 l y (by omega) hy
    · have hn : W.dataLt (T2 x (j : Nat)) (T2 d i) = false := by
        rw [t2_lt]
        simp [c]
        omega
      obtain ⟨k, m, e, h1, h2, h3, h4⟩ := min_fold ds d i (j + 1) (by omega)
      refine ⟨if k = 0 then 0 else k + 1, m, ?_, ?_, ?_, fun y hy => ?_, fun l y hl hy => ?_⟩
      · rw [if_neg (by simp only; rw [hn]; decide), e]
        by_cases hk : k = 0
        · simp [hk]
        · rw [if_neg hk, if_neg hk, if_neg (Nat.succ_ne_zero k), show j + 1 + k - 1 = j + (k + 1) - 1 by omega]
      · split <;> simp only [List.length_cons] <;> omega
      · cases k with
        | zero => exact h2
        | succ k => exact h2
      · cases hy with
        | head => exact h3 d (.head _)
        | tail _ hy =>
          cases hy with
          | head => have := h3 d (.head _); omega
          | tail _ hy => exact h3 y (.tail _ hy)
      · cases k with
        | zero => exact absurd hl (Nat.not_lt_zero _)
        | succ k =>
          have hd := h4 0 d (by omega) rfl
          cases l with
          | zero => cases hy; exact hd
          | succ l =>
            cases l with
            | zero => cases hy; omega
            | succ l =>
              refine h4 (l + 1) y ?_ hy
              simp only [Nat.add_one_ne_zero, if_false] at hl
              omega
theorem alikes_of {l : List PyData} (h1 : ∀ a ∈ l, okD a = true ∧ isNone a = false) (h2 : ∀ a ∈ l, ∀ b ∈ l, W.alike a b = true) : alikes l = true := by
  unfold alikes
  simp only [List.all_eq_true, Bool.and_eq_true, Bool.not_eq_true']
  exact fun a ha => ⟨⟨(h1 a ha).1, (h1 a ha).2⟩, fun b hb => h2 a ha b hb⟩
theorem sat_minT {S : Type} {X : Str → Prop} {ds : List Int} {Q : PyData → Prop} (h0 : ds ≠ []) (h : ∀ (k : Nat) (m : Int), ds[k]? = some m → (∀ y ∈ ds, m ≤ y) → (∀ l y, l < k → ds[l]? = some y → m < y) → Q (T2 m k)) :
    SatE X (lft (S := S) (bltD .min1 [.list (ds.zipIdx.map fun p => T2 p.1 (p.2 : Nat))])) Q := by
  cases ds with
  | nil => exact absurd rfl h0
  | cons d ds =>
    obtain ⟨k, m, e, h1, h2, h3, h4⟩ := min_fold ds d 0 1 (by omega)
    refine sat_lft (a := T2 m k) ?_ (h k m h2 h3 h4)
    show (if alikes ((d :: ds).zipIdx.map fun p => T2 p.1 (p.2 : Nat)) = true then R.ok (W.minD (T2 d (0 : Nat)) ((ds.zipIdx 1).map fun p => T2 p.1 (p.2 : Nat))) else .bad) = _
    rw [if_pos (alikes_of ?_ ?_)]
    · unfold W.minD
      show R.ok (List.foldl _ (T2 d 0) _) = _
      rw [e]
      congr 3
      cases k with
      | zero => rfl
      | succ k => simp only [Nat.add_one_ne_zero, if_false]; congr 1; omega
    · intro a ha
      obtain ⟨p, _, rfl⟩ := List.mem_map.mp ha
      exact ⟨rfl, rfl⟩
    · intro a ha b hb
      obtain ⟨p, _, rfl⟩ := List.mem_map.mp ha
      obtain ⟨q, _, rfl⟩ := List.mem_map.mp hb
      rfl
theorem fold_min : ∀ (ns : List Int) (n m : Int), m ∈ n :: ns → (∀ y ∈ n :: ns, m ≤ y) → ns.foldl min n = m
  | [], n, m, h, _ => by rcases List.mem_singleton.mp h with rfl; rfl
  | x :: ns, n, m, h, g => by
    rw [List.foldl_cons]
    refine fold_min ns (min n x) m ?_ fun y hy => ?_
    · rcases List.mem_cons.mp h with rfl | h
      · have := g x (.tail _ (.head _))
        rw [Int.min_eq_left this]; exact .head _
      · rcases List.mem_cons.mp h with rfl | h
        · have := g n (.head _)
          rw [Int.min_eq_right this]; exact .head _
        · exact .tail _ h
    · rcases List.mem_cons.mp hy with rfl | hy
      · have h1 := g n (.head _)
        have h2 := g x (.tail _ (.head _))
        omega
      · exact g y (.tail _ (.tail _ hy))
theorem sat_minI {S : Type} {X : Str → Prop} {ds : List Int} {m : Int} {Q : PyData → Prop} (hm : m ∈ ds) (h1 : ∀ y ∈ ds, m ≤ y) (h : Q (.int m)) : SatE X (lft (S := S) (bltD .min1 [.list (ds.map PyData.int)])) Q := by
  cases ds with
  | nil => cases hm
  | cons d ds =>
    refine sat_lft (a := .int m) ?_ h
    show (if alikes ((d :: ds).map PyData.int) = true then R.ok (W.minD (.int d) (ds.map PyData.int)) else .bad) = _
    rw [if_pos (alikes_of ?_ ?_), W.minD_ints, fold_min ds d m hm h1]
    · intro a ha
      obtain ⟨p, _, rfl⟩ := List.mem_map.mp ha
      exact ⟨rfl, rfl⟩
    · intro a ha b hb
      obtain ⟨p, _, rfl⟩ := List.mem_map.mp ha
      obtain ⟨q, _, rfl⟩ := List.mem_map.mp hb
      rfl
theorem fold_max : ∀ (ns : List Int) (n : Int), ns.foldl max n ∈ n :: ns ∧ ∀ y ∈ n :: ns, y ≤ ns.foldl max n
  | [], n => ⟨.head _, fun y h => by rcases List.mem_singleton.mp h with rfl; exact Int.le_refl _⟩
  | x :: ns, n => by
    obtain ⟨h1, h2⟩ := fold_max ns (max n x)
    rw [List.foldl_cons]
    refine ⟨?_, fun y hy => ?_⟩
    · rcases List.mem_cons.mp h1 with e | h1
      · rw [e]
        by_cases c : n ≤ x
        · rw [Int.max_eq_right c]; exact .tail _ (.head _)
        · rw [Int.max_eq_left (by omega)]; exact .head _
      · exact .tail _ (.tail _ h1)
    · have h3 := h2 (max n x) (.head _)
      rcases List.mem_cons.mp hy with rfl | hy
      · omega
      · rcases List.mem_cons.mp hy with rfl | hy
        · omega
        · exact h2 y (.tail _ hy)
theorem sat_maxE {S : Type} {X : Str → Prop} {ds : List Int} {Q : PyData → Prop} (h0 : ds ≠ []) (h : ∀ m, m ∈ ds → (∀ y ∈ ds, y ≤ m) → Q (.int m)) : SatE X (lft (S := S) (bltD .max1 [.list (ds.map PyData.int)])) Q := by
  cases ds with
  | nil => exact absurd rfl h0
  | cons d ds =>
    obtain ⟨h1, h2⟩ := fold_max ds d
    refine sat_lft (a := .int (ds.foldl max d)) ?_ (h _ h1 h2)
    show (if alikes ((d :: ds).map PyData.int) = true then R.ok (W.maxD (.int d) (ds.map PyData.int)) else .bad) = _
    rw [if_pos (alikes_of ?_ ?_), W.maxD_ints]
    · intro a ha
      obtain ⟨p, _, rfl⟩ := List.mem_map.mp ha
      exact ⟨rfl, rfl⟩
    · intro a ha b hb
      obtain ⟨p, _, rfl⟩ := List.mem_map.mp ha
      obtain ⟨q, _, rfl⟩ := List.mem_map.mp hb
      rfl
theorem allInts_map : ∀ ns : List Int, allInts (ns.map PyData.int) = some ns
  | [] => rfl
  | n :: ns => by
    show (allInts (ns.map PyData.int)).map (n :: ·) = _
    rw [allInts_map ns]; rfl
theorem sat_sumI {S : Type} {X : Str → Prop} {ds : List Int} {Q : PyData → Prop} (h : Q (.int ds.sum)) : SatE X (lft (S := S) (bltD .sum [.list (ds.map PyData.int)])) Q := by
  refine sat_lft (a := .int ds.sum) ?_ h
  show (match allInts (ds.map PyData.int) with
    | some ns => R.ok (PyData.int ns.sum)
    | none => .bad) = _
  rw [allInts_map]
/-! figures -/
theorem dgs_all : ∀ k n, NumText.AllDigits (dgs k n)
  | 0, _ => fun _ h => nomatch h
  | k + 1, n => fun c h => by
    rcases List.mem_append.mp h with h | h
    · exact dgs_all k _ c h
    · rcases List.mem_singleton.mp h with rfl
      omega
theorem dgs_val : ∀ k n, n < 10 ^ k → NumText.digitsVal (dgs k n) = n
  | 0, n, h => by
    have : n = 0 := by omega
    subst this; rfl
  | k + 1, n, h => by
    have e1 : 10 ^ (k + 1) = 10 ^ k * 10 := Nat.pow_succ ..
    show NumText.digitsVal (dgs k (n / 10) ++ [48 + n % 10]) = n
    rw [NumText.digitsVal_snoc, dgs_val k _ (by omega)]
    omega
theorem dgs_inj {k a b : Nat} (ha : a < 10 ^ k) (hb : b < 10 ^ k) (e : dgs k a = dgs k b) : a = b := by
  rw [← dgs_val k a ha, ← dgs_val k b hb, e]
theorem dgs_take : ∀ (j k n : Nat), (dgs (k + j) n).take k = dgs k (n / 10 ^ j)
  | 0, k, n => by rw [Nat.pow_zero, Nat.div_one]; exact List.take_of_length_le (by rw [Nat.add_zero, dgs_len]; omega)
  | j + 1, k, n => by
    show (dgs (k + j) (n / 10) ++ [48 + n % 10]).take k = _
    rw [List.take_append_of_le_length (by rw [dgs_len]; omega), dgs_take j k, Nat.div_div_eq_div_mul, ← Nat.pow_succ']
end Mir

set_option Elab.async false
set_option linter.all false
set_option maxRecDepth 100000
set_option maxHeartbeats 4000000
/-! Plain part D: the draws. -/
local macro_rules
  | `(tactic| array_get_dec) => `(tactic| first
    | with_reducible refine Mir.sat_v ?_
    | with_reducible refine Mir.sat_int ?_
    | with_reducible refine Mir.sat_cons ?_
    | with_reducible refine Mir.sat_nil ?_
    | with_reducible refine Mir.sat_call ?_
    | with_reducible refine Mir.sat_glob ?_
    | with_reducible refine Mir.sat_bin ?_
    | with_reducible refine Mir.sat_cmp ?_
    | with_reducible refine Mir.sat_blt ?_
    | with_reducible refine Mir.sat_sub ?_
    | with_reducible refine Mir.sat_callS ?_
    | with_reducible refine Mir.sat_tup ?_
    | with_reducible refine Mir.sat_lst ?_
    | with_reducible refine Mir.sat_one ?_
    | with_reducible refine Mir.sat_not ?_
    | with_reducible refine Mir.sat_and ?_
    | with_reducible refine Mir.sat_or ?_
    | with_reducible refine Mir.sat_cond ?_
    | with_reducible refine Mir.sat_chain ?_
    | with_reducible refine Mir.sat_bl ?_
    | with_reducible refine Mir.sat_non ?_
    | with_reducible refine Mir.sat_isa ?_
    | with_reducible refine Mir.sat_subG ?_
    | with_reducible refine Mir.sat_op1 ?_
    | with_reducible refine Mir.sat_op2 ?_
    | with_reducible refine Mir.sat_slL ?_
    | with_reducible refine Mir.sat_slH ?_
    | with_reducible refine Mir.sat_sl ?_
    | with_reducible refine Mir.sat_neg ?_
    | with_reducible refine Mir.sat_dict0 ?_
    | with_reducible refine Mir.sat_of ?_
    | with_reducible refine Mir.sat_range1 ?_
    | with_reducible refine Mir.sat_range2 ?_
    | with_reducible refine Mir.sat_zip ?_
    | with_reducible refine Mir.sat_enum ?_
    | with_reducible refine Mir.sat_sign ?_
    | with_reducible refine Mir.sat_end ?_
    | with_reducible refine Mir.sat_set ?_
    | with_reducible refine Mir.sat_setT ?_
    | with_reducible refine Mir.sat_asg ?_
    | with_reducible refine Mir.sat_par ?_
    | with_reducible refine Mir.sat_app ?_
    | with_reducible refine Mir.sat_setItem ?_
    | with_reducible refine Mir.sat_aug ?_
    | with_reducible refine Mir.sat_expr ?_
    | with_reducible refine Mir.sat_retE ?_
    | with_reducible refine Mir.sat_retN ?_
    | with_reducible refine Mir.sat_pass ?_
    | with_reducible refine Mir.sat_brk ?_
    | with_reducible refine Mir.sat_cnt ?_
    | with_reducible refine Mir.sat_if ?_
    | with_reducible refine Mir.lcf_i ?_
    | with_reducible refine Mir.sat_pick ?_
    | with_reducible refine Mir.sat_range3 ?_
    | with_reducible refine Mir.sat_revw ?_
    | with_reducible refine Mir.sat_raise ?_
    | with_reducible refine Mir.fx_nx ?_
    | with_reducible refine Mir.fx_ret ?_
    | with_reducible refine Mir.fg_nil ?_
    | with_reducible refine Mir.sat_allC ?_
    | with_reducible refine Mir.kx_nx ?_
    | with_reducible refine Mir.kx_ret ?_
    | with_reducible refine Mir.kx_brk ?_
    | with_reducible refine Mir.kx_cnt ?_
    | with_reducible refine Mir.rnd_nx ?_
    | with_reducible refine Mir.rnd_ret ?_
    | with_reducible refine Mir.rnd_brk ?_
    | with_reducible refine Mir.rnd_cnt ?_
    | with_reducible refine Mir.fin_ret ?_
    | with_reducible refine Mir.fin_nx ?_
    | ((with_reducible refine Mir.sat_str ?_ ?_); · decide +kernel))
local macro_rules
  | `(tactic| array_mem_dec) => `(tactic| first
    | with_reducible refine Mir.sat_addI ?_
    | with_reducible refine Mir.sat_subI ?_
    | with_reducible refine Mir.sat_ltI ?_
    | with_reducible refine Mir.sat_gtI ?_
    | with_reducible refine Mir.sat_leI ?_
    | with_reducible refine Mir.sat_geI ?_
    | with_reducible refine Mir.sat_eqI ?_
    | with_reducible refine Mir.sat_neI ?_
    | with_reducible refine Mir.sat_is ?_
    | with_reducible refine Mir.sat_isnt ?_
    | with_reducible refine Mir.sat_eqS ?_
    | with_reducible refine Mir.sat_neB ?_
    | with_reducible refine Mir.sat_eqB ?_
    | with_reducible refine Mir.sat_neS ?_
    | with_reducible refine Mir.sat_abs ?_
    | with_reducible refine Mir.sat_int_ ?_
    | with_reducible refine Mir.sat_min2 ?_
    | with_reducible refine Mir.sat_max2 ?_
    | with_reducible refine Mir.sat_lenL ?_
    | with_reducible refine Mir.sat_lenT ?_
    | with_reducible refine Mir.sat_lenS ?_
    | with_reducible refine Mir.sat_tupL ?_
    | with_reducible refine Mir.sat_listL ?_
    | with_reducible refine Mir.sat_listT ?_
    | with_reducible refine Mir.sat_ofL ?_
    | with_reducible refine Mir.sat_ofT ?_
    | with_reducible refine Mir.sat_nm ?_
    | with_reducible refine Mir.if_T ?_
    | with_reducible refine Mir.if_F ?_
    | ((with_reducible refine Mir.sat_mulI ?_ ?_); · first | exact Or.inr rfl | exact Or.inl rfl | exact Or.inr (Mir.small_of (by omega)) | exact Or.inl (Mir.small_of (by omega)))
    | ((with_reducible refine Mir.sat_divI ?_ ?_); · omega)
    | ((with_reducible refine Mir.sat_modI ?_ ?_); · omega)
    | ((with_reducible refine Mir.sat_tg ?_ ?_); · exact rfl)
    | ((with_reducible refine Mir.sat_atLe ?_); refine ⟨_, rfl, ?_⟩)
    | ((with_reducible refine Mir.sat_atTe ?_); refine ⟨_, rfl, ?_⟩)
    | with_reducible refine Mir.if_not' ?_
    | with_reducible refine Mir.if_not ?_
    | ((with_reducible refine Mir.if_decT ?_ ?_); · omega)
    | ((with_reducible refine Mir.if_decF ?_ ?_); · omega)
    | refine ⟨_, rfl, ?_⟩
    | refine ⟨rfl, ?_⟩
    | refine ⟨Nat.le_of_ble_eq_true rfl, ?_⟩
    | refine ⟨by decide, ?_⟩
    | refine Mir.if_rT rfl ?_
    | refine Mir.if_rF rfl ?_)
local macro_rules
  | `(tactic| sizeOf_list_dec) => `(tactic| repeat (first | array_get_dec | array_mem_dec))
local macro_rules
  | `(tactic| clean_wf) => `(tactic| repeat (first | array_get_dec | array_mem_dec | with_reducible refine Mir.sat_st ?_))

namespace Mir
open PySem
theorem drawsR_ok {n cell : Nat} {p1 p2 p3 : Sts Unit} {ns : List Int} (h : Sat (runs p1 (List.replicate n none)) fun fl => ∃ ρ, fl = .nx ρ ∧ Sat (forGo (fun x ρ => bnd (lft (asg (.nm cell) x ρ)) fun ρ' => runs p2 ρ') (ns.map PyData.int) ρ) fun fl => ∃ ρ, fl = .nx ρ ∧ Sat (runs p3 ρ) fun fl => ∃ st : List Int, fl = .ret (.list (st.map PyData.int)) ∧ st.length ≤ sizeLine) :
    ∃ st : List Int, drawsR n cell p1 p2 p3 ns = .ok (.ret (.list (st.map PyData.int)), ()) ∧ st.length ≤ sizeLine := by
  obtain ⟨_, s1, e1, ρ1, rfl, h⟩ := h.get ()
  obtain ⟨_, s2, e2, ρ2, rfl, h⟩ := h.get s1
  obtain ⟨_, s3, e3, st, rfl, hl⟩ := h.get s2
  refine ⟨st, ?_, hl⟩
  unfold drawsR
  rw [e1]
  show (R.bind (forGo _ _ ρ1 s1) _) = _
  rw [e2]
  exact e3
/-- a row of whole numbers, of at most so many -/
def AI (n : Nat) (ds : List PyData) : Prop := ∃ l : List Int, ds = l.map PyData.int ∧ l.length ≤ n
theorem AI.push {n : Nat} {ds : List PyData} {i : Int} (h : AI n ds) : AI (n + 1) (ds ++ [.int i]) := by
  obtain ⟨l, rfl, hl⟩ := h
  exact ⟨l ++ [i], by simp, by simpa using hl⟩
theorem AI.mono {n m : Nat} {ds : List PyData} (h : AI n ds) (hm : n ≤ m) : AI m ds := by
  obtain ⟨l, rfl, hl⟩ := h
  exact ⟨l, rfl, Nat.le_trans hl hm⟩
theorem AI.len {n : Nat} {ds : List PyData} (h : AI n ds) : ds.length ≤ n := by
  obtain ⟨l, rfl, hl⟩ := h
  simpa using hl
theorem sat_rev {S : Type} {xs : List PyData} {Q : PyData → Prop} (h : Q (.list xs.reverse)) : Sat (lft (S := S) (op1D .rev (.list xs))) Q := sat_lft rfl h
theorem pow18 : binD .Pow (.int 10) (.int 18) = .ok (.int 1000000000000000000) := by kernel_rfl
def D2_3_0 : St Unit := (.ite (.cmp .Gt (.v 4) (.int 0)) (.cons (.app 1 false (.bin .Mod (.blt .int_ (.cons (.v 4) .nil)) (.int 997))) (.cons (.set 4 false false (.bin .FloorDiv (.v 4) (.int 997))) .nil)) .nil)
def D2_3 : St Unit := (.for_ [1] (.nm 5) (.range1 (.int 60)) (.cons D2_3_0 .nil))
theorem d23 {n : Nat} (hn : n ≤ 100000) {ds : List PyData} (h : AI n ds) {s c o5 : Option PyData} {v : Int} (hv : 0 ≤ v) {F : Fl → Prop} (hF : ∀ ds v o5, AI (n + 60) ds → F (.nx [none, some (.list ds), s, c, some (.int v), o5])) : Sat (run D2_3 [none, some (.list ds), s, c, some (.int v), o5]) F := by
  unfold D2_3
  refine sat_for (fun _ k ρ => ∃ ds v o5, ρ = [none, some (.list ds), s, c, some (.int v), o5] ∧ AI (n + k) ds ∧ 0 ≤ v) ?_
  clean_wf
  refine ⟨⟨_, _, _, rfl, h, hv⟩, ?_, ?_⟩
  · rintro k hk ρ ⟨ds, v, o5, rfl, h, hv⟩
    rw [rangeD_len] at hk
    have hk : k < 60 := hk
    have hl := h.len
    clean_wf; unfold D2_3_0; clean_wf
    refine if_dec (fun z => ?_) (fun z => ?_)
    · clean_wf
      refine ⟨by show _ < 2 ^ 24; omega, ?_⟩
      clean_wf
      exact ⟨_, _, _, rfl, h.push, by omega⟩
    · clean_wf
      exact ⟨_, _, _, rfl, h.mono (by omega), hv⟩
  · rintro ρ ⟨ds, v, o5, rfl, h, hv⟩
    exact hF _ _ _ h
/-- the draws of the smaller laws -/
theorem draws1_ok (rounds : Int) (hr : 0 ≤ rounds ∧ rounds ≤ 100000) (ns : List Int) (hns : ns.length ≤ 63) : ∃ st : List Int, drawsR 6 3
      (.cons (.set 1 true false (.lst .nil)) (.cons (.set 2 false false (.int 11)) .nil))
      (.cons (.set 4 false false (.blt .abs (.cons (.blt .int_ (.cons (.v 3) .nil)) .nil))) (.cons (.set 2 false false (.bin .Mod (.blt .int_ (.cons (.bin .Add (.bin .Add (.bin .Mult (.v 2) (.int 48271)) (.v 4)) (.int 1)) .nil)) (.int 2147483647))) (.cons (.ite (.cmp .Lt (.v 4) (.bin .Pow (.int 10) (.int 18))) (.cons (.app 1 false (.bin .Mod (.blt .int_ (.cons (.v 4) .nil)) (.int 997))) (.cons (.app 1 false (.bin .Mod (.blt .int_ (.cons (.v 2) .nil)) (.int 65521))) (.cons (.set 4 false false (.int 0)) .nil))) .nil) (.cons (.for_ [1] (.nm 5) (.range1 (.int 60)) (.cons (.ite (.cmp .Gt (.v 4) (.int 0)) (.cons (.app 1 false (.bin .Mod (.blt .int_ (.cons (.v 4) .nil)) (.int 997))) (.cons (.set 4 false false (.bin .FloorDiv (.v 4) (.int 997))) .nil)) .nil) .nil)) .nil))))
      (.cons (.for_ [1] (.nm 5) (.range1 (.int rounds)) (.cons (.set 2 false false (.bin .Mod (.blt .int_ (.cons (.bin .Add (.bin .Mult (.v 2) (.int 48271)) (.int 69621)) .nil)) (.int 2147483647))) (.cons (.app 1 false (.bin .FloorDiv (.v 2) (.int 5))) .nil))) (.cons (.ret (.op1 .rev (.v 1))) .nil)) ns = .ok (.ret (.list (st.map PyData.int)), ()) ∧ st.length ≤ sizeLine := by
  refine drawsR_ok ?_
  show Sat (runs _ [none, none, none, none, none, none]) _
  clean_wf
  refine forGo_ok _ (fun k ρ => ∃ ds s o3 o4 o5, ρ = [none, some (.list ds), some (.int s), o3, o4, o5] ∧ AI (k * 62) ds ∧ 0 ≤ s ∧ s < 2147483647) ⟨_, _, _, _, _, rfl, ⟨[], rfl, Nat.zero_le _⟩, by decide, by decide⟩ ?_ ?_
  · rintro k hk ρ ⟨ds, s, o3, o4, o5, rfl, h, h1, h2⟩
    rw [List.length_map] at hk
    rw [List.getElem_map]
    have hl := h.len
    refine sat_bnd ?_
    clean_wf
    have hab : 0 ≤ (if ns[k] < 0 then -ns[k] else ns[k]) := by omega
    refine sat_lft pow18 ?_
    clean_wf
    refine if_dec (fun z => ?_) (fun z => ?_)
    · clean_wf
      refine ⟨by show _ < 2 ^ 24; omega, ?_⟩
      clean_wf
      refine ⟨by show _ < 2 ^ 24; rw [List.length_append]; show _ + 1 < _; omega, ?_⟩
      clean_wf
      refine d23 (n := k * 62 + 2) (by omega) h.push.push (by decide) fun ds v o5 h => ?_
      clean_wf
      exact ⟨_, _, _, _, _, rfl, h.mono (by omega), by omega, by omega⟩
    · clean_wf
      refine d23 (n := k * 62) (by omega) h hab fun ds v o5 h => ?_
      clean_wf
      exact ⟨_, _, _, _, _, rfl, h.mono (by omega), by omega, by omega⟩
  · rintro ρ ⟨ds, s, o3, o4, o5, rfl, h, h1, h2⟩
    rw [List.length_map] at h
    have h := h.mono (show ns.length * 62 ≤ 4000 by omega)
    refine ⟨_, rfl, ?_⟩
    clean_wf
    refine sat_for (fun _ k ρ => ∃ ds s o5, ρ = [none, some (.list ds), some (.int s), o3, o4, o5] ∧ AI (4000 + k) ds ∧ 0 ≤ s ∧ s < 2147483647) ?_
    clean_wf
    refine ⟨by show _ ≤ (2 ^ 24 : Int); omega, by omega, ⟨_, _, _, rfl, h, h1, h2⟩, ?_, ?_⟩
    · rintro k hk ρ ⟨ds, s, o5, rfl, h, h1, h2⟩
      rw [rangeD_len] at hk
      have hk : k < 100000 := by omega
      have hl := h.len
      clean_wf
      refine ⟨by show _ < 2 ^ 24; omega, ?_⟩
      clean_wf
      exact ⟨_, _, _, rfl, h.push, by omega, by omega⟩
    · rintro ρ ⟨ds, s, o5, rfl, h, h1, h2⟩
      rw [rangeD_len] at h
      have h : AI 104000 ds := h.mono (by omega)
      obtain ⟨l, rfl, hl⟩ := h
      clean_wf
      refine sat_rev ?_
      clean_wf
      exact ⟨l.reverse, by rw [List.map_reverse], by rw [List.length_reverse]; show _ ≤ 2 ^ 24; omega⟩
end Mir

set_option Elab.async false
set_option linter.all false
set_option maxRecDepth 100000
set_option maxHeartbeats 2000000
/-! Plain part E: the end of a law whose calls may let exceptions out. -/
namespace Mir
open PySem PySem.Spec PyProof.Rows L2
theorem walkW {lw : PySem.W.OpenLaw} {most k : Nat} {q : Program} {loose : List Str}
    {XP : (Str → Option Value) → Heap → Prop} {YP : World → Heap → Prop} {dr : DefRec}
    (CXw : World → CXT) {nm : Str} (h1 : lw.most = some most) (h2 : most ≤ sizeLine)
    (h3 : dr.params.defaults = []) (room : Room k callerA)
    (law : ∀ (w : World) (mg : Str → Option Value) (f : Addr) (hp : Heap), YP w hp → hp.Ns mainGlobals mg →
      mg dr.name = some (.ref f) → ∃ (K : PySem.W.Frag) (fd : FuncData) (sp : Sp), K.In hp ∧
        (∀ (s : Shared) (u : Value), BindsTo s fd ⟨[u], []⟩ [(nm, u)]) ∧
        (∀ (H : Hp) (a : Addr) (ns : List Int), ns.length ≤ most → SqL K H a (ns.map V.int) →
          sp [.ref a] H (fun v _ => v = .bl true) fun _ _ _ => False) ∧
        ∀ base : Heap, K.In base → base.Ns mainGlobals mg → FnOk lw.prog w K mg base (CXw w) k f fd [nm] sp)
    (noX : ∀ w (H : Hp) (s : Shared) (e : Value) (s' : Shared), CXw w [] H s (fun _ _ _ => False) e s' → False) :
    PySem.W.WalkO q loose XP YP lw.row.toRowW dr [] (fun f vs => PySem.call f vs) := by
  refine Att.attach_call h1 h3 ?_
  intro w _ s1 mg mb f o pm cd doc a vs ns G Y ho hd hcd hmg hobj hints hlen hg
  obtain ⟨K, fd, sp, kx, bd, use, fok⟩ := law w mg f _ Y G.T.g hmg
  refine law_call kx G.T.g G.T.b G.T.builtins G.T.nolimit hg hobj hints ?_ room fok bd ?_ ?_
  · exact Nat.le_trans hlen h2
  · exact fun H _ hS => use H a ns hlen hS
  · exact fun H e s' => noX w H s1 e s'
end Mir

set_option Elab.async false
set_option linter.all false
set_option maxRecDepth 100000
set_option maxHeartbeats 4000000
namespace K13
open PySem PySem.Spec PyProof.Rows L2 Mir
@[irreducible] def top (i : Nat) : Stmt := PySem.Challenge.pw_signward_k13_whole_squares_of_the_map.main.body.getD i (.Pass ⟨0, 0, 0, 0⟩)
def tab_x : List (Str × List Bool) := [(("NotRight" : Str), [true, false, false, false, false]), (("NotThere" : Str), [false, true, false, false, false]), (("NoAnswer" : Str), [false, false, true, false, false]), (("TooLarge" : Str), [false, false, false, true, false]), (("Malformed" : Str), [false, false, false, false, true])]
structure Facts (K : PySem.W.Frag) (mg : Str → Option Value) : Prop where
  fr : ∀ x ∈ bltNames, mg (Str.ofString x) = none
  d_law_draws : DefAt K mg "_law_draws" (top 43)
  d_law_same : DefAt K mg "_law_same" (top 46)
  d_check : DefAt K mg "check" (top 9)
  d_is_integer : DefAt K mg "is_integer" (top 7)
  d_is_within : DefAt K mg "is_within" (top 8)
  d_check_figures : DefAt K mg "check_figures" (top 19)
  d_figures_of : DefAt K mg "figures_of" (top 21)
  d_reference_by : DefAt K mg "reference_by" (top 22)
  d_is_point : DefAt K mg "is_point" (top 18)
  d_reference_of : DefAt K mg "reference_of" (top 23)
  d_side_of : DefAt K mg "side_of" (top 20)
  d_square_by : DefAt K mg "square_by" (top 24)
  d_is_reference : DefAt K mg "is_reference" (top 17)
  d_square_of : DefAt K mg "square_of" (top 25)
  d_do_touch : DefAt K mg "do_touch" (top 27)
  d_shortened_reference : DefAt K mg "shortened_reference" (top 28)
  d_squares_between : DefAt K mg "squares_between" (top 29)
  d_law_take : DefAt K mg "_law_take" (top 44)
  d_law_pick : DefAt K mg "_law_pick" (top 45)
  d_law_point : DefAt K mg "_law_point" (top 50)
  d_law_near : DefAt K mg "_law_near" (top 51)
  d_law_reference : DefAt K mg "_law_reference" (top 49)
  d_law_square : DefAt K mg "_law_square" (top 48)
  d_law_flags : DefAt K mg "_law_flags" (top 47)
  d_moved_point : DefAt K mg "moved_point" (top 36)
  d_are_points : DefAt K mg "are_points" (top 33)
  d_middle_point : DefAt K mg "middle_point" (top 35)
  d_holds_point : DefAt K mg "holds_point" (top 26)
  d_squared : DefAt K mg "squared" (top 30)
  d_distance_squared : DefAt K mg "distance_squared" (top 31)
  d_bearing_word : DefAt K mg "bearing_word" (top 32)
  d_nearest_point : DefAt K mg "nearest_point" (top 34)
  d_common_reference : DefAt K mg "common_reference" (top 37)
  d_law_told : DefAt K mg "_law_told" (top 52)
  d_law_word : DefAt K mg "_law_word" (top 53)
  d_takes_square : DefAt K mg "takes_square" (top 41)
  d_law_between : DefAt K mg "_law_between" (top 54)
  d_law : DefAt K mg "law" (top 55)
  g_FIGURES : GlobOk mg "FIGURES" (.str ("0123456789" : Str))
  g_LAST : GlobOk mg "LAST" (.int 239999)
  g_LETTERS_checkmarks : GlobOk mg "LETTERS_checkmarks" (.str ("ABCDEFGHJKLMNPQRSTUVWXYZ" : Str))
  g_LETTERS_squares : GlobOk mg "LETTERS_squares" (.str ("ABCDEFGHJKLMNPQRSTUVWXYZ" : Str))
  g_MOST_FIGURES : GlobOk mg "MOST_FIGURES" (.int 4)
  g_MOST_SQUARES : GlobOk mg "MOST_SQUARES" (.int 400)
  g_SHEET : GlobOk mg "SHEET" (.int 10000)
  gd_SIDES : GD K mg "SIDES" [(1, 1000), (2, 100), (3, 10), (4, 1)]
  x_NoAnswer : RK K mg "NoAnswer"
  x_NotRight : RK K mg "NotRight"
  x_TooLarge : RK K mg "TooLarge"
  xt : XTab K mg ("SignError" : Str) [("NotRight" : Str), ("NotThere" : Str), ("NoAnswer" : Str), ("TooLarge" : Str), ("Malformed" : Str)] tab_x
section
variable {P : Program} {w : World} {K : PySem.W.Frag} {mg : Str → Option Value} {base : Heap}
theorem ok_law_take (c : Facts K mg) : FnGD P w K mg base 1 "_law_take" m_take 1 := by
  obtain ⟨f, fd, F, hx⟩ := c.d_law_take
  exact take_ok F ⟨by kernel_rfl, by kernel_rfl, by kernel_rfl, by decide +kernel, by kernel_rfl, by decide +kernel, by decide +kernel⟩ c.fr hx (FunD.bindsN F fun _ _ _ _ _ _ us hl => match us, hl with | [_, _], _ => by kernel_rfl) (by decide +kernel) (by decide +kernel) (by decide +kernel) (by decide +kernel) (by decide +kernel)
abbrev m_law_take := m_take
def N_draws : List Str := [("script" : Str), ("draws" : Str), ("seed" : Str), ("cell" : Str), ("number" : Str), ("k" : Str)]
def b_draws1 : Sts Unit :=
      (.cons (.set 1 true false (.lst .nil))
      (.cons (.set 2 false false (.int 11))
      .nil))
def b_draws2 : Sts Unit :=
      (.cons (.set 4 false false (.blt .abs (.cons (.blt .int_ (.cons (.v 3) .nil)) .nil)))
      (.cons (.set 2 false false (.bin .Mod (.blt .int_ (.cons (.bin .Add (.bin .Add (.bin .Mult (.v 2) (.int 48271)) (.v 4)) (.int 1)) .nil)) (.int 2147483647)))
      (.cons (.ite (.cmp .Lt (.v 4) (.bin .Pow (.int 10) (.int 18)))
      (.cons (.app 1 false (.bin .Mod (.blt .int_ (.cons (.v 4) .nil)) (.int 997)))
      (.cons (.app 1 false (.bin .Mod (.blt .int_ (.cons (.v 2) .nil)) (.int 65521)))
      (.cons (.set 4 false false (.int 0))
      .nil)))
      .nil)
      (.cons (.for_ [1] (.nm 5) (.range1 (.int 60))
      (.cons (.ite (.cmp .Gt (.v 4) (.int 0))
      (.cons (.app 1 false (.bin .Mod (.blt .int_ (.cons (.v 4) .nil)) (.int 997)))
      (.cons (.set 4 false false (.bin .FloorDiv (.v 4) (.int 997)))
      .nil))
      .nil)
      .nil))
      .nil))))
def b_draws3 : Sts Unit :=
      (.cons (.for_ [1] (.nm 5) (.range1 (.int 900))
      (.cons (.set 2 false false (.bin .Mod (.blt .int_ (.cons (.bin .Add (.bin .Mult (.v 2) (.int 48271)) (.int 69621)) .nil)) (.int 2147483647)))
      (.cons (.app 1 false (.bin .FloorDiv (.v 2) (.int 5)))
      .nil)))
      (.cons (.ret (.op1 .rev (.v 1)))
      .nil))
def l1_draws : List Nat := [1]
def li_draws : List Nat := [1]
def cell_draws : Nat := 3
def N_law_same : List Str := [("actual" : Str), ("due" : Str), ("k" : Str), ("key" : Str)]
def b_law_same (m : List PyData → R PyData) : Sts Unit :=
      (.cons (.ite (.cmp .Is (.v 1) .non)
      (.cons (.ret (.cmp .Is (.v 0) .non))
      .nil)
      .nil)
      (.cons (.ite (.or_ (.isa .tuple (.v 1)) (.one (.isa .list (.v 1))))
      (.cons (.ite (.or_ (.cmp .NotEq (.isa .tuple (.v 1)) (.isa .tuple (.v 0))) (.one (.cmp .NotEq (.isa .list (.v 1)) (.isa .list (.v 0)))))
      (.cons (.ret (.bl false))
      .nil)
      .nil)
      (.cons (.ite (.cmp .NotEq (.blt .len (.cons (.v 0) .nil)) (.blt .len (.cons (.v 1) .nil)))
      (.cons (.ret (.bl false))
      .nil)
      .nil)
      (.cons (.for_ [] (.nm 2) (.range1 (.blt .len (.cons (.v 1) .nil)))
      (.cons (.ite (.not_ (.call ("_law_same" : Str) m (.cons (.sub (.v 0) (.v 2)) (.cons (.sub (.v 1) (.v 2)) .nil))))
      (.cons (.ret (.bl false))
      .nil)
      .nil)
      .nil))
      (.cons (.ret (.bl true))
      .nil))))
      .nil)
      (.cons (.ite (.isa .dict (.v 1))
      (.cons (.ite (.or_ (.not_ (.isa .dict (.v 0))) (.one (.cmp .NotEq (.blt .len (.cons (.v 0) .nil)) (.blt .len (.cons (.v 1) .nil)))))
      (.cons (.ret (.bl false))
      .nil)
      .nil)
      (.cons (.ret (.cmp .Eq (.lc (.v 3) (.nm 3) (.of (.v 1)) (.or_ (.cmp .NotIn (.v 3) (.v 0)) (.one (.not_ (.call ("_law_same" : Str) m (.cons (.sub (.v 0) (.v 3)) (.cons (.sub (.v 1) (.v 3)) .nil)))))) [(("key" : Str), 3)]) (.lst .nil)))
      .nil))
      .nil)
      (.cons (.ite (.cmp .NotEq (.isa .bool (.v 1)) (.isa .bool (.v 0)))
      (.cons (.ret (.bl false))
      .nil)
      .nil)
      (.cons (.ite (.or_ (.cmp .NotEq (.isa .int (.v 1)) (.isa .int (.v 0))) (.one (.cmp .NotEq (.isa .str (.v 1)) (.isa .str (.v 0)))))
      (.cons (.ret (.bl false))
      .nil)
      .nil)
      (.cons (.ret (.cmp .Eq (.v 0) (.v 1)))
      .nil))))))
def m_law_same : Nat → List PyData → R PyData
  | 0 => fun _ => .bad
  | n + 1 => defP N_law_same.length (b_law_same (m_law_same n))
theorem sc_law_same : FnScope N_law_same [("actual" : Str), ("due" : Str)] (defScope (top 46)) := ⟨by kernel_rfl, by kernel_rfl, by kernel_rfl, by decide +kernel, by kernel_rfl, by decide +kernel, by decide +kernel⟩
theorem ok_law_same (c : Facts K mg) : ∀ n, FnG P w K mg base (0 + n) "_law_same" (m_law_same n) 2
  | 0 => FnG.mono (FnG.bad (c.d_law_same) (ps := [("actual" : Str), ("due" : Str)]) (fun f fd F => FunD.bindsN F fun _ _ _ _ _ _ us hl => match us, hl with | [_, _], _ => by kernel_rfl) rfl : FnG P w K mg base 0 "_law_same" (fun _ => .bad) 2) (by omega)
  | n + 1 => def_okS (N := N_law_same) (ps := [("actual" : Str), ("due" : Str)]) (body := b_law_same (m_law_same n)) (j := 0 + n) c.d_law_same sc_law_same c.fr (fun f fd F => FunD.bindsN F fun _ _ _ _ _ _ us hl => match us, hl with | [_, _], _ => by kernel_rfl) (by kernel_rfl)
      fun A hr => ⟨⟨⟨trivial, trivial⟩, ⟨⟨trivial, trivial⟩, trivial⟩, trivial⟩, ⟨⟨⟨trivial, trivial⟩, ⟨⟨⟨⟨trivial, trivial⟩, ⟨trivial, trivial⟩⟩, ⟨trivial, trivial⟩, trivial⟩, ⟨⟨⟨⟨trivial, trivial⟩, ⟨trivial, trivial⟩⟩, ⟨trivial, trivial⟩, trivial⟩, ⟨⟨⟨trivial, trivial⟩, ⟨⟨⟨(ok_law_same c n).s hr (by omega), ⟨⟨trivial, trivial⟩, ⟨⟨trivial, trivial⟩, trivial⟩⟩⟩, ⟨trivial, trivial⟩, trivial⟩, trivial⟩⟩, ⟨trivial, trivial⟩⟩⟩⟩, trivial⟩, ⟨⟨trivial, ⟨⟨⟨trivial, ⟨⟨trivial, trivial⟩, ⟨trivial, trivial⟩⟩⟩, ⟨trivial, trivial⟩, trivial⟩, ⟨⟨⟨trivial, ⟨⟨trivial, trivial⟩, ⟨(ok_law_same c n).s hr (by omega), ⟨⟨trivial, trivial⟩, ⟨⟨trivial, trivial⟩, trivial⟩⟩⟩⟩, trivial⟩, trivial⟩, trivial⟩⟩, trivial⟩, ⟨⟨⟨trivial, trivial⟩, ⟨trivial, trivial⟩, trivial⟩, ⟨⟨⟨⟨trivial, trivial⟩, ⟨trivial, trivial⟩⟩, ⟨trivial, trivial⟩, trivial⟩, ⟨⟨trivial, trivial⟩, trivial⟩⟩⟩⟩⟩⟩
def N_check : List Str := [("is_right" : Str)]
def b_check : Sts Unit :=
      (.cons (.ite (.not_ (.v 0))
      (.cons (.raise_ ("NotRight" : Str))
      .nil)
      .nil)
      .nil)
def m_check : List PyData → R PyData := defP N_check.length b_check
theorem sc_check : FnScope N_check [("is_right" : Str)] (defScope (top 9)) := ⟨by kernel_rfl, by kernel_rfl, by kernel_rfl, by decide +kernel, by kernel_rfl, by decide +kernel, by decide +kernel⟩
theorem ok_check (c : Facts K mg) : FnG P w K mg base 1 "check" m_check 1 :=
  def_okS (N := N_check) (ps := [("is_right" : Str)]) (body := b_check) (j := 0) c.d_check sc_check c.fr (fun f fd F => FunD.bindsN F fun _ _ _ _ _ _ us hl => match us, hl with | [_], _ => by kernel_rfl) (by decide +kernel)
      fun A hr => ⟨⟨trivial, ⟨c.x_NotRight, trivial⟩, trivial⟩, trivial⟩
def N_is_integer : List Str := [("value" : Str)]
def b_is_integer : Sts Unit :=
      (.cons (.ret (.and_ (.isa .int (.v 0)) (.one (.not_ (.isa .bool (.v 0))))))
      .nil)
def m_is_integer : List PyData → R PyData := defP N_is_integer.length b_is_integer
theorem sc_is_integer : FnScope N_is_integer [("value" : Str)] (defScope (top 7)) := ⟨by kernel_rfl, by kernel_rfl, by kernel_rfl, by decide +kernel, by kernel_rfl, by decide +kernel, by decide +kernel⟩
theorem ok_is_integer (c : Facts K mg) : FnG P w K mg base 1 "is_integer" m_is_integer 1 :=
  def_okS (N := N_is_integer) (ps := [("value" : Str)]) (body := b_is_integer) (j := 0) c.d_is_integer sc_is_integer c.fr (fun f fd F => FunD.bindsN F fun _ _ _ _ _ _ us hl => match us, hl with | [_], _ => by kernel_rfl) (by decide +kernel)
      fun A hr => ⟨⟨trivial, trivial⟩, trivial⟩
def N_is_within : List Str := [("value" : Str), ("low" : Str), ("high" : Str)]
def b_is_within : Sts Unit :=
      (.cons (.ret (.and_ (.call ("is_integer" : Str) m_is_integer (.cons (.v 0) .nil)) (.one (.chain .LtE .LtE (.v 1) (.v 0) (.v 2)))))
      .nil)
def m_is_within : List PyData → R PyData := defP N_is_within.length b_is_within
theorem sc_is_within : FnScope N_is_within [("value" : Str), ("low" : Str), ("high" : Str)] (defScope (top 8)) := ⟨by kernel_rfl, by kernel_rfl, by kernel_rfl, by decide +kernel, by kernel_rfl, by decide +kernel, by decide +kernel⟩
theorem ok_is_within (c : Facts K mg) : FnG P w K mg base 2 "is_within" m_is_within 3 :=
  def_okS (N := N_is_within) (ps := [("value" : Str), ("low" : Str), ("high" : Str)]) (body := b_is_within) (j := 1) c.d_is_within sc_is_within c.fr (fun f fd F => FunD.bindsN F fun _ _ _ _ _ _ us hl => match us, hl with | [_, _, _], _ => by kernel_rfl) (by decide +kernel)
      fun A hr => ⟨⟨⟨(ok_is_integer c).s hr (by decide), ⟨trivial, trivial⟩⟩, ⟨trivial, trivial, trivial⟩⟩, trivial⟩
def N_check_figures : List Str := [("h" : Str)]
def b_check_figures : Sts Unit :=
      (.cons (.expr (.call ("check" : Str) m_check (.cons (.call ("is_within" : Str) m_is_within (.cons (.v 0) (.cons (.int 1) (.cons (.glob ("MOST_FIGURES" : Str) (.int 4)) .nil)))) .nil)))
      .nil)
def m_check_figures : List PyData → R PyData := defP N_check_figures.length b_check_figures
theorem sc_check_figures : FnScope N_check_figures [("h" : Str)] (defScope (top 19)) := ⟨by kernel_rfl, by kernel_rfl, by kernel_rfl, by decide +kernel, by kernel_rfl, by decide +kernel, by decide +kernel⟩
theorem ok_check_figures (c : Facts K mg) : FnG P w K mg base 3 "check_figures" m_check_figures 1 :=
  def_okS (N := N_check_figures) (ps := [("h" : Str)]) (body := b_check_figures) (j := 2) c.d_check_figures sc_check_figures c.fr (fun f fd F => FunD.bindsN F fun _ _ _ _ _ _ us hl => match us, hl with | [_], _ => by kernel_rfl) (by decide +kernel)
      fun A hr => ⟨⟨(ok_check c).s hr (by decide), ⟨⟨(ok_is_within c).s hr (by decide), ⟨trivial, ⟨trivial, ⟨c.g_MOST_FIGURES, trivial⟩⟩⟩⟩, trivial⟩⟩, trivial⟩
def N_figures_of : List Str := [("number" : Str), ("h" : Str)]
def b_figures_of : Sts Unit :=
      (.cons (.ret (.sl (.blt .str_ (.cons (.bin .Add (.glob ("SHEET" : Str) (.int 10000)) (.v 0)) .nil)) (.int 1) (.bin .Add (.int 1) (.v 1))))
      .nil)
def m_figures_of : List PyData → R PyData := defP N_figures_of.length b_figures_of
theorem sc_figures_of : FnScope N_figures_of [("number" : Str), ("h" : Str)] (defScope (top 21)) := ⟨by kernel_rfl, by kernel_rfl, by kernel_rfl, by decide +kernel, by kernel_rfl, by decide +kernel, by decide +kernel⟩
theorem ok_figures_of (c : Facts K mg) : FnG P w K mg base 1 "figures_of" m_figures_of 2 :=
  def_okS (N := N_figures_of) (ps := [("number" : Str), ("h" : Str)]) (body := b_figures_of) (j := 0) c.d_figures_of sc_figures_of c.fr (fun f fd F => FunD.bindsN F fun _ _ _ _ _ _ us hl => match us, hl with | [_, _], _ => by kernel_rfl) (by decide +kernel)
      fun A hr => ⟨⟨⟨⟨c.g_SHEET, trivial⟩, trivial⟩, trivial, ⟨trivial, trivial⟩⟩, trivial⟩
def N_reference_by : List Str := [("point" : Str), ("h" : Str), ("east" : Str), ("north" : Str), ("letters" : Str)]
def b_reference_by : Sts Unit :=
      (.cons (.asg [2, 3] false (.v 0))
      (.cons (.set 4 false false (.bin .Add (.sub (.glob ("LETTERS_squares" : Str) (.str ("ABCDEFGHJKLMNPQRSTUVWXYZ" : Str))) (.bin .FloorDiv (.v 2) (.glob ("SHEET" : Str) (.int 10000)))) (.sub (.glob ("LETTERS_squares" : Str) (.str ("ABCDEFGHJKLMNPQRSTUVWXYZ" : Str))) (.bin .FloorDiv (.v 3) (.glob ("SHEET" : Str) (.int 10000))))))
      (.cons (.ret (.bin .Add (.bin .Add (.v 4) (.call ("figures_of" : Str) m_figures_of (.cons (.bin .Mod (.v 2) (.glob ("SHEET" : Str) (.int 10000))) (.cons (.v 1) .nil)))) (.call ("figures_of" : Str) m_figures_of (.cons (.bin .Mod (.v 3) (.glob ("SHEET" : Str) (.int 10000))) (.cons (.v 1) .nil)))))
      .nil)))
def m_reference_by : List PyData → R PyData := defP N_reference_by.length b_reference_by
theorem sc_reference_by : FnScope N_reference_by [("point" : Str), ("h" : Str)] (defScope (top 22)) := ⟨by kernel_rfl, by kernel_rfl, by kernel_rfl, by decide +kernel, by kernel_rfl, by decide +kernel, by decide +kernel⟩
theorem ok_reference_by (c : Facts K mg) : FnG P w K mg base 2 "reference_by" m_reference_by 2 :=
  def_okS (N := N_reference_by) (ps := [("point" : Str), ("h" : Str)]) (body := b_reference_by) (j := 1) c.d_reference_by sc_reference_by c.fr (fun f fd F => FunD.bindsN F fun _ _ _ _ _ _ us hl => match us, hl with | [_, _], _ => by kernel_rfl) (by decide +kernel)
      fun A hr => ⟨trivial, ⟨⟨⟨c.g_LETTERS_squares, ⟨trivial, c.g_SHEET⟩⟩, ⟨c.g_LETTERS_squares, ⟨trivial, c.g_SHEET⟩⟩⟩, ⟨⟨⟨trivial, ⟨(ok_figures_of c).s hr (by decide), ⟨⟨trivial, c.g_SHEET⟩, ⟨trivial, trivial⟩⟩⟩⟩, ⟨(ok_figures_of c).s hr (by decide), ⟨⟨trivial, c.g_SHEET⟩, ⟨trivial, trivial⟩⟩⟩⟩, trivial⟩⟩⟩
def N_is_point : List Str := [("value" : Str), ("one" : Str)]
def b_is_point : Sts Unit :=
      (.cons (.ret (.and_ (.isa .tuple (.v 0)) (.and_ (.cmp .Eq (.blt .len (.cons (.v 0) .nil)) (.int 2)) (.one (.blt .all_ (.cons (.lc (.call ("is_within" : Str) m_is_within (.cons (.v 1) (.cons (.int 0) (.cons (.glob ("LAST" : Str) (.int 239999)) .nil)))) (.nm 1) (.of (.v 0)) (.bl true) [(("one" : Str), 1)]) .nil))))))
      .nil)
def m_is_point : List PyData → R PyData := defP N_is_point.length b_is_point
theorem sc_is_point : FnScope N_is_point [("value" : Str)] (defScope (top 18)) := ⟨by kernel_rfl, by kernel_rfl, by kernel_rfl, by decide +kernel, by kernel_rfl, by decide +kernel, by decide +kernel⟩
theorem ok_is_point (c : Facts K mg) : FnG P w K mg base 3 "is_point" m_is_point 1 :=
  def_okS (N := N_is_point) (ps := [("value" : Str)]) (body := b_is_point) (j := 2) c.d_is_point sc_is_point c.fr (fun f fd F => FunD.bindsN F fun _ _ _ _ _ _ us hl => match us, hl with | [_], _ => by kernel_rfl) (by decide +kernel)
      fun A hr => ⟨⟨trivial, ⟨⟨⟨trivial, trivial⟩, trivial⟩, ⟨⟨trivial, trivial, ⟨(ok_is_within c).s hr (by decide), ⟨trivial, ⟨trivial, ⟨c.g_LAST, trivial⟩⟩⟩⟩⟩, trivial⟩⟩⟩, trivial⟩
def N_reference_of : List Str := [("point" : Str), ("h" : Str)]
def b_reference_of : Sts Unit :=
      (.cons (.expr (.call ("check" : Str) m_check (.cons (.call ("is_point" : Str) m_is_point (.cons (.v 0) .nil)) .nil)))
      (.cons (.expr (.call ("check_figures" : Str) m_check_figures (.cons (.v 1) .nil)))
      (.cons (.ret (.call ("reference_by" : Str) m_reference_by (.cons (.v 0) (.cons (.v 1) .nil))))
      .nil)))
def m_reference_of : List PyData → R PyData := defP N_reference_of.length b_reference_of
theorem sc_reference_of : FnScope N_reference_of [("point" : Str), ("h" : Str)] (defScope (top 23)) := ⟨by kernel_rfl, by kernel_rfl, by kernel_rfl, by decide +kernel, by kernel_rfl, by decide +kernel, by decide +kernel⟩
theorem ok_reference_of (c : Facts K mg) : FnG P w K mg base 4 "reference_of" m_reference_of 2 :=
  def_okS (N := N_reference_of) (ps := [("point" : Str), ("h" : Str)]) (body := b_reference_of) (j := 3) c.d_reference_of sc_reference_of c.fr (fun f fd F => FunD.bindsN F fun _ _ _ _ _ _ us hl => match us, hl with | [_, _], _ => by kernel_rfl) (by decide +kernel)
      fun A hr => ⟨⟨(ok_check c).s hr (by decide), ⟨⟨(ok_is_point c).s hr (by decide), ⟨trivial, trivial⟩⟩, trivial⟩⟩, ⟨⟨(ok_check_figures c).s hr (by decide), ⟨trivial, trivial⟩⟩, ⟨⟨(ok_reference_by c).s hr (by decide), ⟨trivial, ⟨trivial, trivial⟩⟩⟩, trivial⟩⟩⟩
def N_side_of : List Str := [("h" : Str)]
def b_side_of : Sts Unit :=
      (.cons (.ret (.subG ("SIDES" : Str) [(1, 1000), (2, 100), (3, 10), (4, 1)] (.v 0)))
      .nil)
def m_side_of : List PyData → R PyData := defP N_side_of.length b_side_of
theorem sc_side_of : FnScope N_side_of [("h" : Str)] (defScope (top 20)) := ⟨by kernel_rfl, by kernel_rfl, by kernel_rfl, by decide +kernel, by kernel_rfl, by decide +kernel, by decide +kernel⟩
theorem ok_side_of (c : Facts K mg) : FnG P w K mg base 1 "side_of" m_side_of 1 :=
  def_okS (N := N_side_of) (ps := [("h" : Str)]) (body := b_side_of) (j := 0) c.d_side_of sc_side_of c.fr (fun f fd F => FunD.bindsN F fun _ _ _ _ _ _ us hl => match us, hl with | [_], _ => by kernel_rfl) (by decide +kernel)
      fun A hr => ⟨⟨c.gd_SIDES, trivial⟩, trivial⟩
def N_square_by : List Str := [("reference" : Str), ("h" : Str), ("side" : Str), ("east" : Str)]
def b_square_by : Sts Unit :=
      (.cons (.set 1 false false (.bin .FloorDiv (.bin .Sub (.blt .len (.cons (.v 0) .nil)) (.int 2)) (.int 2)))
      (.cons (.set 2 false false (.call ("side_of" : Str) m_side_of (.cons (.v 1) .nil)))
      (.cons (.set 3 false false (.bin .Add (.bin .Mult (.op2 .sindex (.glob ("LETTERS_squares" : Str) (.str ("ABCDEFGHJKLMNPQRSTUVWXYZ" : Str))) (.sub (.v 0) (.int 0))) (.glob ("SHEET" : Str) (.int 10000))) (.bin .Mult (.blt .int_ (.cons (.sl (.v 0) (.int 2) (.bin .Add (.int 2) (.v 1))) .nil)) (.v 2))))
      (.cons (.ret (.tup (.cons (.v 3) (.cons (.bin .Add (.bin .Mult (.op2 .sindex (.glob ("LETTERS_squares" : Str) (.str ("ABCDEFGHJKLMNPQRSTUVWXYZ" : Str))) (.sub (.v 0) (.int 1))) (.glob ("SHEET" : Str) (.int 10000))) (.bin .Mult (.blt .int_ (.cons (.slL (.v 0) (.bin .Add (.int 2) (.v 1))) .nil)) (.v 2))) (.cons (.v 2) .nil)))))
      .nil))))
def m_square_by : List PyData → R PyData := defP N_square_by.length b_square_by
theorem sc_square_by : FnScope N_square_by [("reference" : Str)] (defScope (top 24)) := ⟨by kernel_rfl, by kernel_rfl, by kernel_rfl, by decide +kernel, by kernel_rfl, by decide +kernel, by decide +kernel⟩
theorem ok_square_by (c : Facts K mg) : FnG P w K mg base 2 "square_by" m_square_by 1 :=
  def_okS (N := N_square_by) (ps := [("reference" : Str)]) (body := b_square_by) (j := 1) c.d_square_by sc_square_by c.fr (fun f fd F => FunD.bindsN F fun _ _ _ _ _ _ us hl => match us, hl with | [_], _ => by kernel_rfl) (by decide +kernel)
      fun A hr => ⟨⟨⟨⟨trivial, trivial⟩, trivial⟩, trivial⟩, ⟨⟨(ok_side_of c).s hr (by decide), ⟨trivial, trivial⟩⟩, ⟨⟨⟨⟨c.g_LETTERS_squares, ⟨trivial, trivial⟩⟩, c.g_SHEET⟩, ⟨⟨⟨trivial, trivial, ⟨trivial, trivial⟩⟩, trivial⟩, trivial⟩⟩, ⟨⟨trivial, ⟨⟨⟨⟨c.g_LETTERS_squares, ⟨trivial, trivial⟩⟩, c.g_SHEET⟩, ⟨⟨⟨trivial, ⟨trivial, trivial⟩⟩, trivial⟩, trivial⟩⟩, ⟨trivial, trivial⟩⟩⟩, trivial⟩⟩⟩⟩
def N_is_reference : List Str := [("value" : Str), ("sign" : Str)]
def b_is_reference : Sts Unit :=
      (.cons (.ite (.or_ (.not_ (.isa .str (.v 0))) (.one (.cmp .NotIn (.blt .len (.cons (.v 0) .nil)) (.tup (.cons (.int 4) (.cons (.int 6) (.cons (.int 8) (.cons (.int 10) .nil))))))))
      (.cons (.ret (.bl false))
      .nil)
      .nil)
      (.cons (.ret (.and_ (.cmp .In (.sub (.v 0) (.int 0)) (.glob ("LETTERS_squares" : Str) (.str ("ABCDEFGHJKLMNPQRSTUVWXYZ" : Str)))) (.and_ (.cmp .In (.sub (.v 0) (.int 1)) (.glob ("LETTERS_squares" : Str) (.str ("ABCDEFGHJKLMNPQRSTUVWXYZ" : Str)))) (.one (.blt .all_ (.cons (.lc (.cmp .In (.v 1) (.str ("0123456789" : Str))) (.nm 1) (.sign (.slL (.v 0) (.int 2))) (.bl true) [(("sign" : Str), 1)]) .nil))))))
      .nil))
def m_is_reference : List PyData → R PyData := defP N_is_reference.length b_is_reference
theorem sc_is_reference : FnScope N_is_reference [("value" : Str)] (defScope (top 17)) := ⟨by kernel_rfl, by kernel_rfl, by kernel_rfl, by decide +kernel, by kernel_rfl, by decide +kernel, by decide +kernel⟩
theorem ok_is_reference (c : Facts K mg) : FnG P w K mg base 1 "is_reference" m_is_reference 1 :=
  def_okS (N := N_is_reference) (ps := [("value" : Str)]) (body := b_is_reference) (j := 0) c.d_is_reference sc_is_reference c.fr (fun f fd F => FunD.bindsN F fun _ _ _ _ _ _ us hl => match us, hl with | [_], _ => by kernel_rfl) (by decide +kernel)
      fun A hr => ⟨⟨⟨trivial, ⟨⟨trivial, trivial⟩, ⟨trivial, ⟨trivial, ⟨trivial, ⟨trivial, trivial⟩⟩⟩⟩⟩⟩, ⟨trivial, trivial⟩, trivial⟩, ⟨⟨⟨⟨trivial, trivial⟩, c.g_LETTERS_squares⟩, ⟨⟨⟨trivial, trivial⟩, c.g_LETTERS_squares⟩, ⟨⟨⟨trivial, trivial⟩, trivial, ⟨trivial, trivial⟩⟩, trivial⟩⟩⟩, trivial⟩⟩
def N_square_of : List Str := [("reference" : Str)]
def b_square_of : Sts Unit :=
      (.cons (.expr (.call ("check" : Str) m_check (.cons (.call ("is_reference" : Str) m_is_reference (.cons (.v 0) .nil)) .nil)))
      (.cons (.ret (.call ("square_by" : Str) m_square_by (.cons (.v 0) .nil)))
      .nil))
def m_square_of : List PyData → R PyData := defP N_square_of.length b_square_of
theorem sc_square_of : FnScope N_square_of [("reference" : Str)] (defScope (top 25)) := ⟨by kernel_rfl, by kernel_rfl, by kernel_rfl, by decide +kernel, by kernel_rfl, by decide +kernel, by decide +kernel⟩
theorem ok_square_of (c : Facts K mg) : FnG P w K mg base 3 "square_of" m_square_of 1 :=
  def_okS (N := N_square_of) (ps := [("reference" : Str)]) (body := b_square_of) (j := 2) c.d_square_of sc_square_of c.fr (fun f fd F => FunD.bindsN F fun _ _ _ _ _ _ us hl => match us, hl with | [_], _ => by kernel_rfl) (by decide +kernel)
      fun A hr => ⟨⟨(ok_check c).s hr (by decide), ⟨⟨(ok_is_reference c).s hr (by decide), ⟨trivial, trivial⟩⟩, trivial⟩⟩, ⟨⟨(ok_square_by c).s hr (by decide), ⟨trivial, trivial⟩⟩, trivial⟩⟩
def N_do_touch : List Str := [("one" : Str), ("other" : Str), ("a" : Str), ("b" : Str), ("side" : Str), ("c" : Str), ("d" : Str), ("more" : Str)]
def b_do_touch : Sts Unit :=
      (.cons (.expr (.call ("check" : Str) m_check (.cons (.and_ (.call ("is_reference" : Str) m_is_reference (.cons (.v 0) .nil)) (.one (.call ("is_reference" : Str) m_is_reference (.cons (.v 1) .nil)))) .nil)))
      (.cons (.asg [2, 3, 4] false (.call ("square_by" : Str) m_square_by (.cons (.v 0) .nil)))
      (.cons (.asg [5, 6, 7] false (.call ("square_by" : Str) m_square_by (.cons (.v 1) .nil)))
      (.cons (.ret (.and_ (.cmp .LtE (.v 2) (.bin .Add (.v 5) (.v 7))) (.and_ (.cmp .LtE (.v 5) (.bin .Add (.v 2) (.v 4))) (.and_ (.cmp .LtE (.v 3) (.bin .Add (.v 6) (.v 7))) (.one (.cmp .LtE (.v 6) (.bin .Add (.v 3) (.v 4))))))))
      .nil))))
def m_do_touch : List PyData → R PyData := defP N_do_touch.length b_do_touch
theorem sc_do_touch : FnScope N_do_touch [("one" : Str), ("other" : Str)] (defScope (top 27)) := ⟨by kernel_rfl, by kernel_rfl, by kernel_rfl, by decide +kernel, by kernel_rfl, by decide +kernel, by decide +kernel⟩
theorem ok_do_touch (c : Facts K mg) : FnG P w K mg base 3 "do_touch" m_do_touch 2 :=
  def_okS (N := N_do_touch) (ps := [("one" : Str), ("other" : Str)]) (body := b_do_touch) (j := 2) c.d_do_touch sc_do_touch c.fr (fun f fd F => FunD.bindsN F fun _ _ _ _ _ _ us hl => match us, hl with | [_, _], _ => by kernel_rfl) (by decide +kernel)
      fun A hr => ⟨⟨(ok_check c).s hr (by decide), ⟨⟨⟨(ok_is_reference c).s hr (by decide), ⟨trivial, trivial⟩⟩, ⟨(ok_is_reference c).s hr (by decide), ⟨trivial, trivial⟩⟩⟩, trivial⟩⟩, ⟨⟨(ok_square_by c).s hr (by decide), ⟨trivial, trivial⟩⟩, ⟨⟨(ok_square_by c).s hr (by decide), ⟨trivial, trivial⟩⟩, ⟨⟨⟨trivial, ⟨trivial, trivial⟩⟩, ⟨⟨trivial, ⟨trivial, trivial⟩⟩, ⟨⟨trivial, ⟨trivial, trivial⟩⟩, ⟨trivial, ⟨trivial, trivial⟩⟩⟩⟩⟩, trivial⟩⟩⟩⟩
def N_shortened_reference : List Str := [("reference" : Str), ("h" : Str), ("own" : Str)]
def b_shortened_reference : Sts Unit :=
      (.cons (.expr (.call ("check" : Str) m_check (.cons (.call ("is_reference" : Str) m_is_reference (.cons (.v 0) .nil)) .nil)))
      (.cons (.set 2 false false (.bin .FloorDiv (.bin .Sub (.blt .len (.cons (.v 0) .nil)) (.int 2)) (.int 2)))
      (.cons (.expr (.call ("check" : Str) m_check (.cons (.call ("is_within" : Str) m_is_within (.cons (.v 1) (.cons (.int 1) (.cons (.v 2) .nil)))) .nil)))
      (.cons (.ret (.bin .Add (.slH (.v 0) (.bin .Add (.int 2) (.v 1))) (.sl (.v 0) (.bin .Add (.int 2) (.v 2)) (.bin .Add (.bin .Add (.int 2) (.v 2)) (.v 1)))))
      .nil))))
def m_shortened_reference : List PyData → R PyData := defP N_shortened_reference.length b_shortened_reference
theorem sc_shortened_reference : FnScope N_shortened_reference [("reference" : Str), ("h" : Str)] (defScope (top 28)) := ⟨by kernel_rfl, by kernel_rfl, by kernel_rfl, by decide +kernel, by kernel_rfl, by decide +kernel, by decide +kernel⟩
theorem ok_shortened_reference (c : Facts K mg) : FnG P w K mg base 3 "shortened_reference" m_shortened_reference 2 :=
  def_okS (N := N_shortened_reference) (ps := [("reference" : Str), ("h" : Str)]) (body := b_shortened_reference) (j := 2) c.d_shortened_reference sc_shortened_reference c.fr (fun f fd F => FunD.bindsN F fun _ _ _ _ _ _ us hl => match us, hl with | [_, _], _ => by kernel_rfl) (by decide +kernel)
      fun A hr => ⟨⟨(ok_check c).s hr (by decide), ⟨⟨(ok_is_reference c).s hr (by decide), ⟨trivial, trivial⟩⟩, trivial⟩⟩, ⟨⟨⟨⟨trivial, trivial⟩, trivial⟩, trivial⟩, ⟨⟨(ok_check c).s hr (by decide), ⟨⟨(ok_is_within c).s hr (by decide), ⟨trivial, ⟨trivial, ⟨trivial, trivial⟩⟩⟩⟩, trivial⟩⟩, ⟨⟨⟨trivial, ⟨trivial, trivial⟩⟩, ⟨trivial, ⟨trivial, trivial⟩, ⟨⟨trivial, trivial⟩, trivial⟩⟩⟩, trivial⟩⟩⟩⟩
def N_squares_between : List Str := [("one" : Str), ("other" : Str), ("h" : Str), ("side" : Str), ("lows" : Str), ("highs" : Str), ("found" : Str), ("row" : Str), ("column" : Str), ("at" : Str)]
def b_squares_between : Sts Unit :=
      (.cons (.expr (.call ("check" : Str) m_check (.cons (.and_ (.call ("is_point" : Str) m_is_point (.cons (.v 0) .nil)) (.one (.call ("is_point" : Str) m_is_point (.cons (.v 1) .nil)))) .nil)))
      (.cons (.expr (.call ("check_figures" : Str) m_check_figures (.cons (.v 2) .nil)))
      (.cons (.set 3 false false (.call ("side_of" : Str) m_side_of (.cons (.v 2) .nil)))
      (.cons (.set 4 false false (.lc (.bin .FloorDiv (.blt .min2 (.cons (.sub (.v 0) (.v 9)) (.cons (.sub (.v 1) (.v 9)) .nil))) (.v 3)) (.nm 9) (.range1 (.int 2)) (.bl true) [(("at" : Str), 9)]))
      (.cons (.set 5 false false (.lc (.bin .FloorDiv (.blt .max2 (.cons (.sub (.v 0) (.v 9)) (.cons (.sub (.v 1) (.v 9)) .nil))) (.v 3)) (.nm 9) (.range1 (.int 2)) (.bl true) [(("at" : Str), 9)]))
      (.cons (.ite (.cmp .Gt (.bin .Mult (.bin .Add (.bin .Sub (.sub (.v 5) (.int 0)) (.sub (.v 4) (.int 0))) (.int 1)) (.bin .Add (.bin .Sub (.sub (.v 5) (.int 1)) (.sub (.v 4) (.int 1))) (.int 1))) (.glob ("MOST_SQUARES" : Str) (.int 400)))
      (.cons (.raise_ ("TooLarge" : Str))
      .nil)
      .nil)
      (.cons (.set 6 true false (.lst .nil))
      (.cons (.for_ [6] (.nm 7) (.range2 (.sub (.v 4) (.int 1)) (.bin .Add (.sub (.v 5) (.int 1)) (.int 1)))
      (.cons (.for_ [6] (.nm 8) (.range2 (.sub (.v 4) (.int 0)) (.bin .Add (.sub (.v 5) (.int 0)) (.int 1)))
      (.cons (.app 6 false (.call ("reference_by" : Str) m_reference_by (.cons (.tup (.cons (.bin .Mult (.v 8) (.v 3)) (.cons (.bin .Mult (.v 7) (.v 3)) .nil))) (.cons (.v 2) .nil))))
      .nil))
      .nil))
      (.cons (.ret (.v 6))
      .nil)))))))))
def m_squares_between : List PyData → R PyData := defP N_squares_between.length b_squares_between
theorem sc_squares_between : FnScope N_squares_between [("one" : Str), ("other" : Str), ("h" : Str)] (defScope (top 29)) := ⟨by kernel_rfl, by kernel_rfl, by kernel_rfl, by decide +kernel, by kernel_rfl, by decide +kernel, by decide +kernel⟩
theorem ok_squares_between (c : Facts K mg) : FnG P w K mg base 4 "squares_between" m_squares_between 3 :=
  def_okS (N := N_squares_between) (ps := [("one" : Str), ("other" : Str), ("h" : Str)]) (body := b_squares_between) (j := 3) c.d_squares_between sc_squares_between c.fr (fun f fd F => FunD.bindsN F fun _ _ _ _ _ _ us hl => match us, hl with | [_, _, _], _ => by kernel_rfl) (by decide +kernel)
      fun A hr => ⟨⟨(ok_check c).s hr (by decide), ⟨⟨⟨(ok_is_point c).s hr (by decide), ⟨trivial, trivial⟩⟩, ⟨(ok_is_point c).s hr (by decide), ⟨trivial, trivial⟩⟩⟩, trivial⟩⟩, ⟨⟨(ok_check_figures c).s hr (by decide), ⟨trivial, trivial⟩⟩, ⟨⟨(ok_side_of c).s hr (by decide), ⟨trivial, trivial⟩⟩, ⟨⟨trivial, trivial, ⟨⟨⟨trivial, trivial⟩, ⟨⟨trivial, trivial⟩, trivial⟩⟩, trivial⟩⟩, ⟨⟨trivial, trivial, ⟨⟨⟨trivial, trivial⟩, ⟨⟨trivial, trivial⟩, trivial⟩⟩, trivial⟩⟩, ⟨⟨⟨⟨⟨⟨⟨trivial, trivial⟩, ⟨trivial, trivial⟩⟩, trivial⟩, ⟨⟨⟨trivial, trivial⟩, ⟨trivial, trivial⟩⟩, trivial⟩⟩, c.g_MOST_SQUARES⟩, ⟨c.x_TooLarge, trivial⟩, trivial⟩, ⟨trivial, ⟨⟨⟨⟨trivial, trivial⟩, ⟨⟨trivial, trivial⟩, trivial⟩⟩, ⟨⟨⟨⟨trivial, trivial⟩, ⟨⟨trivial, trivial⟩, trivial⟩⟩, ⟨⟨(ok_reference_by c).s hr (by decide), ⟨⟨⟨trivial, trivial⟩, ⟨⟨trivial, trivial⟩, trivial⟩⟩, ⟨trivial, trivial⟩⟩⟩, trivial⟩⟩, trivial⟩⟩, ⟨trivial, trivial⟩⟩⟩⟩⟩⟩⟩⟩⟩
def N_law_pick : List Str := [("draws" : Str), ("some" : Str)]
def b_law_pick : Sts (List Int) :=
      (.cons (.ret (.sub (.v 1) (.callS ("_law_take" : Str) m_law_take (.cons (.blt .len (.cons (.v 1) .nil)) .nil))))
      .nil)
def m_law_pick : List PyData → M (List Int) PyData := defD N_law_pick.length b_law_pick
theorem sc_law_pick : FnScope N_law_pick [("draws" : Str), ("some" : Str)] (defScope (top 45)) := ⟨by kernel_rfl, by kernel_rfl, by kernel_rfl, by decide +kernel, by kernel_rfl, by decide +kernel, by decide +kernel⟩
theorem ok_law_pick (c : Facts K mg) : FnGD P w K mg base 2 "_law_pick" m_law_pick 1 :=
  defD_okS (N := N_law_pick) (ps := [("draws" : Str), ("some" : Str)]) (body := b_law_pick) (j := 1) c.d_law_pick sc_law_pick c.fr (fun f fd F => FunD.bindsN F fun _ _ _ _ _ _ us hl => match us, hl with | [_, _], _ => by kernel_rfl) rfl (by decide +kernel)
      fun A hr a => ⟨⟨trivial, ⟨(ok_law_take c).s hr (by decide) 0 a, ⟨⟨trivial, trivial⟩, trivial⟩⟩⟩, trivial⟩
def N_law_point : List Str := [("draws" : Str), ("east" : Str)]
def b_law_point : Sts (List Int) :=
      (.cons (.set 1 false false (.callS ("_law_pick" : Str) m_law_pick (.cons (.lst (.cons (.callS ("_law_take" : Str) m_law_take (.cons (.int 240000) .nil)) (.cons (.bin .Add (.bin .Mult (.int 10000) (.callS ("_law_take" : Str) m_law_take (.cons (.int 24) .nil))) (.callS ("_law_pick" : Str) m_law_pick (.cons (.lst (.cons (.int 0) (.cons (.int 9999) .nil))) .nil))) (.cons (.int 239999) (.cons (.int 0) .nil))))) .nil)))
      (.cons (.ret (.tup (.cons (.v 1) (.cons (.callS ("_law_pick" : Str) m_law_pick (.cons (.lst (.cons (.callS ("_law_take" : Str) m_law_take (.cons (.int 240000) .nil)) (.cons (.bin .Mult (.int 1000) (.callS ("_law_take" : Str) m_law_take (.cons (.int 240) .nil))) (.cons (.int 239999) .nil)))) .nil)) .nil))))
      .nil))
def m_law_point : List PyData → M (List Int) PyData := defD N_law_point.length b_law_point
theorem sc_law_point : FnScope N_law_point [("draws" : Str)] (defScope (top 50)) := ⟨by kernel_rfl, by kernel_rfl, by kernel_rfl, by decide +kernel, by kernel_rfl, by decide +kernel, by decide +kernel⟩
theorem ok_law_point (c : Facts K mg) : FnGD P w K mg base 3 "_law_point" m_law_point 0 :=
  defD_okS (N := N_law_point) (ps := [("draws" : Str)]) (body := b_law_point) (j := 2) c.d_law_point sc_law_point c.fr (fun f fd F => FunD.bindsN F fun _ _ _ _ _ _ us hl => match us, hl with | [_], _ => by kernel_rfl) rfl (by decide +kernel)
      fun A hr a => ⟨⟨(ok_law_pick c).s hr (by decide) 0 a, ⟨⟨⟨(ok_law_take c).s hr (by decide) 0 a, ⟨trivial, trivial⟩⟩, ⟨⟨⟨trivial, ⟨(ok_law_take c).s hr (by decide) 0 a, ⟨trivial, trivial⟩⟩⟩, ⟨(ok_law_pick c).s hr (by decide) 0 a, ⟨⟨trivial, ⟨trivial, trivial⟩⟩, trivial⟩⟩⟩, ⟨trivial, ⟨trivial, trivial⟩⟩⟩⟩, trivial⟩⟩, ⟨⟨trivial, ⟨⟨(ok_law_pick c).s hr (by decide) 0 a, ⟨⟨⟨(ok_law_take c).s hr (by decide) 0 a, ⟨trivial, trivial⟩⟩, ⟨⟨trivial, ⟨(ok_law_take c).s hr (by decide) 0 a, ⟨trivial, trivial⟩⟩⟩, ⟨trivial, trivial⟩⟩⟩, trivial⟩⟩, trivial⟩⟩, trivial⟩⟩
def N_law_near : List Str := [("draws" : Str), ("point" : Str), ("far" : Str), ("found" : Str), ("one" : Str)]
def b_law_near : Sts (List Int) :=
      (.cons (.set 3 true false (.lst .nil))
      (.cons (.for_ [3] (.nm 4) (.of (.v 1))
      (.cons (.app 3 false (.blt .max2 (.cons (.int 0) (.cons (.blt .min2 (.cons (.int 239999) (.cons (.bin .Sub (.bin .Add (.v 4) (.callS ("_law_take" : Str) m_law_take (.cons (.bin .Add (.bin .Mult (.int 2) (.v 2)) (.int 1)) .nil))) (.v 2)) .nil))) .nil))))
      .nil))
      (.cons (.ret (.blt .tuple_ (.cons (.v 3) .nil)))
      .nil)))
def m_law_near : List PyData → M (List Int) PyData := defD N_law_near.length b_law_near
theorem sc_law_near : FnScope N_law_near [("draws" : Str), ("point" : Str), ("far" : Str)] (defScope (top 51)) := ⟨by kernel_rfl, by kernel_rfl, by kernel_rfl, by decide +kernel, by kernel_rfl, by decide +kernel, by decide +kernel⟩
theorem ok_law_near (c : Facts K mg) : FnGD P w K mg base 2 "_law_near" m_law_near 2 :=
  defD_okS (N := N_law_near) (ps := [("draws" : Str), ("point" : Str), ("far" : Str)]) (body := b_law_near) (j := 1) c.d_law_near sc_law_near c.fr (fun f fd F => FunD.bindsN F fun _ _ _ _ _ _ us hl => match us, hl with | [_, _, _], _ => by kernel_rfl) rfl (by decide +kernel)
      fun A hr a => ⟨trivial, ⟨⟨trivial, ⟨⟨trivial, ⟨⟨trivial, ⟨⟨⟨trivial, ⟨(ok_law_take c).s hr (by decide) 0 a, ⟨⟨⟨trivial, trivial⟩, trivial⟩, trivial⟩⟩⟩, trivial⟩, trivial⟩⟩, trivial⟩⟩, trivial⟩⟩, ⟨⟨trivial, trivial⟩, trivial⟩⟩⟩
def N_law_reference : List Str := [("point" : Str), ("h" : Str), ("letters" : Str), ("first" : Str), ("second" : Str), ("side" : Str), ("east" : Str), ("north" : Str), ("k" : Str)]
def b_law_reference : Sts Unit :=
      (.cons (.set 2 false false (.str ("ABCDEFGHJKLMNPQRSTUVWXYZ" : Str)))
      (.cons (.par [3, 4, 5] [false, false, false] false (.cons (.str ("" : Str)) (.cons (.str ("" : Str)) (.cons (.int 10000) .nil))))
      (.cons (.par [6, 7] [false, false] false (.cons (.bin .Mod (.blt .int_ (.cons (.sub (.v 0) (.int 0)) .nil)) (.int 10000)) (.cons (.bin .Mod (.blt .int_ (.cons (.sub (.v 0) (.int 1)) .nil)) (.int 10000)) .nil)))
      (.cons (.for_ [] (.nm 8) (.range1 (.v 1))
      (.cons (.set 5 false false (.bin .FloorDiv (.v 5) (.int 10)))
      (.cons (.par [3, 4] [false, false] false (.cons (.bin .Add (.v 3) (.blt .str_ (.cons (.bin .FloorDiv (.v 6) (.v 5)) .nil))) (.cons (.bin .Add (.v 4) (.blt .str_ (.cons (.bin .FloorDiv (.v 7) (.v 5)) .nil))) .nil)))
      (.cons (.par [6, 7] [false, false] false (.cons (.bin .Mod (.blt .int_ (.cons (.v 6) .nil)) (.v 5)) (.cons (.bin .Mod (.blt .int_ (.cons (.v 7) .nil)) (.v 5)) .nil)))
      .nil))))
      (.cons (.ret (.bin .Add (.bin .Add (.bin .Add (.sub (.v 2) (.bin .FloorDiv (.sub (.v 0) (.int 0)) (.int 10000))) (.sub (.v 2) (.bin .FloorDiv (.sub (.v 0) (.int 1)) (.int 10000)))) (.v 3)) (.v 4)))
      .nil)))))
def m_law_reference : List PyData → R PyData := defP N_law_reference.length b_law_reference
theorem sc_law_reference : FnScope N_law_reference [("point" : Str), ("h" : Str)] (defScope (top 49)) := ⟨by kernel_rfl, by kernel_rfl, by kernel_rfl, by decide +kernel, by kernel_rfl, by decide +kernel, by decide +kernel⟩
theorem ok_law_reference (c : Facts K mg) : FnG P w K mg base 1 "_law_reference" m_law_reference 2 :=
  def_okS (N := N_law_reference) (ps := [("point" : Str), ("h" : Str)]) (body := b_law_reference) (j := 0) c.d_law_reference sc_law_reference c.fr (fun f fd F => FunD.bindsN F fun _ _ _ _ _ _ us hl => match us, hl with | [_, _], _ => by kernel_rfl) (by decide +kernel)
      fun A hr => ⟨trivial, ⟨⟨trivial, ⟨trivial, ⟨trivial, trivial⟩⟩⟩, ⟨⟨⟨⟨⟨trivial, trivial⟩, trivial⟩, trivial⟩, ⟨⟨⟨⟨trivial, trivial⟩, trivial⟩, trivial⟩, trivial⟩⟩, ⟨⟨trivial, ⟨⟨trivial, trivial⟩, ⟨⟨⟨trivial, ⟨⟨trivial, trivial⟩, trivial⟩⟩, ⟨⟨trivial, ⟨⟨trivial, trivial⟩, trivial⟩⟩, trivial⟩⟩, ⟨⟨⟨⟨trivial, trivial⟩, trivial⟩, ⟨⟨⟨trivial, trivial⟩, trivial⟩, trivial⟩⟩, trivial⟩⟩⟩⟩, ⟨⟨⟨⟨⟨trivial, ⟨⟨trivial, trivial⟩, trivial⟩⟩, ⟨trivial, ⟨⟨trivial, trivial⟩, trivial⟩⟩⟩, trivial⟩, trivial⟩, trivial⟩⟩⟩⟩⟩
def N_law_square : List Str := [("reference" : Str), ("letters" : Str), ("h" : Str), ("east" : Str), ("north" : Str), ("side" : Str), ("k" : Str)]
def b_law_square : Sts Unit :=
      (.cons (.par [1, 2] [false, false] false (.cons (.str ("ABCDEFGHJKLMNPQRSTUVWXYZ" : Str)) (.cons (.bin .FloorDiv (.bin .Sub (.blt .len (.cons (.v 0) .nil)) (.int 2)) (.int 2)) .nil)))
      (.cons (.par [3, 4, 5] [false, false, false] false (.cons (.bin .Mult (.op2 .sindex (.v 1) (.sub (.v 0) (.int 0))) (.int 10000)) (.cons (.bin .Mult (.op2 .sindex (.v 1) (.sub (.v 0) (.int 1))) (.int 10000)) (.cons (.int 10000) .nil))))
      (.cons (.for_ [] (.nm 6) (.range1 (.v 2))
      (.cons (.set 5 false false (.bin .FloorDiv (.v 5) (.int 10)))
      (.cons (.par [3, 4] [false, false] false (.cons (.bin .Add (.v 3) (.bin .Mult (.blt .int_ (.cons (.sub (.v 0) (.bin .Add (.int 2) (.v 6))) .nil)) (.v 5))) (.cons (.bin .Add (.v 4) (.bin .Mult (.blt .int_ (.cons (.sub (.v 0) (.bin .Add (.bin .Add (.int 2) (.v 2)) (.v 6))) .nil)) (.v 5))) .nil)))
      .nil)))
      (.cons (.ret (.tup (.cons (.v 3) (.cons (.v 4) (.cons (.v 5) .nil)))))
      .nil))))
def m_law_square : List PyData → R PyData := defP N_law_square.length b_law_square
theorem sc_law_square : FnScope N_law_square [("reference" : Str)] (defScope (top 48)) := ⟨by kernel_rfl, by kernel_rfl, by kernel_rfl, by decide +kernel, by kernel_rfl, by decide +kernel, by decide +kernel⟩
theorem ok_law_square (c : Facts K mg) : FnG P w K mg base 1 "_law_square" m_law_square 1 :=
  def_okS (N := N_law_square) (ps := [("reference" : Str)]) (body := b_law_square) (j := 0) c.d_law_square sc_law_square c.fr (fun f fd F => FunD.bindsN F fun _ _ _ _ _ _ us hl => match us, hl with | [_], _ => by kernel_rfl) (by decide +kernel)
      fun A hr => ⟨⟨trivial, ⟨⟨⟨⟨trivial, trivial⟩, trivial⟩, trivial⟩, trivial⟩⟩, ⟨⟨⟨⟨trivial, ⟨trivial, trivial⟩⟩, trivial⟩, ⟨⟨⟨trivial, ⟨trivial, trivial⟩⟩, trivial⟩, ⟨trivial, trivial⟩⟩⟩, ⟨⟨trivial, ⟨⟨trivial, trivial⟩, ⟨⟨⟨trivial, ⟨⟨⟨trivial, ⟨trivial, trivial⟩⟩, trivial⟩, trivial⟩⟩, ⟨⟨trivial, ⟨⟨⟨trivial, ⟨⟨trivial, trivial⟩, trivial⟩⟩, trivial⟩, trivial⟩⟩, trivial⟩⟩, trivial⟩⟩⟩, ⟨⟨trivial, ⟨trivial, ⟨trivial, trivial⟩⟩⟩, trivial⟩⟩⟩⟩
theorem sc_law_flags : FnScope [("e" : Str)] [("e" : Str)] (defScope (top 47)) := ⟨by kernel_rfl, by kernel_rfl, by kernel_rfl, by decide +kernel, by kernel_rfl, by decide +kernel, by decide +kernel⟩
def N_moved_point : List Str := [("point" : Str), ("east" : Str), ("north" : Str), ("found" : Str)]
def b_moved_point : Sts Unit :=
      (.cons (.expr (.call ("check" : Str) m_check (.cons (.and_ (.call ("is_point" : Str) m_is_point (.cons (.v 0) .nil)) (.and_ (.call ("is_integer" : Str) m_is_integer (.cons (.v 1) .nil)) (.one (.call ("is_integer" : Str) m_is_integer (.cons (.v 2) .nil))))) .nil)))
      (.cons (.set 3 false false (.tup (.cons (.bin .Add (.sub (.v 0) (.int 0)) (.v 1)) (.cons (.bin .Add (.sub (.v 0) (.int 1)) (.v 2)) .nil))))
      (.cons (.ite (.not_ (.call ("is_point" : Str) m_is_point (.cons (.v 3) .nil)))
      (.cons (.raise_ ("NoAnswer" : Str))
      .nil)
      .nil)
      (.cons (.ret (.v 3))
      .nil))))
def m_moved_point : List PyData → R PyData := defP N_moved_point.length b_moved_point
theorem sc_moved_point : FnScope N_moved_point [("point" : Str), ("east" : Str), ("north" : Str)] (defScope (top 36)) := ⟨by kernel_rfl, by kernel_rfl, by kernel_rfl, by decide +kernel, by kernel_rfl, by decide +kernel, by decide +kernel⟩
theorem ok_moved_point (c : Facts K mg) : FnG P w K mg base 4 "moved_point" m_moved_point 3 :=
  def_okS (N := N_moved_point) (ps := [("point" : Str), ("east" : Str), ("north" : Str)]) (body := b_moved_point) (j := 3) c.d_moved_point sc_moved_point c.fr (fun f fd F => FunD.bindsN F fun _ _ _ _ _ _ us hl => match us, hl with | [_, _, _], _ => by kernel_rfl) (by decide +kernel)
      fun A hr => ⟨⟨(ok_check c).s hr (by decide), ⟨⟨⟨(ok_is_point c).s hr (by decide), ⟨trivial, trivial⟩⟩, ⟨⟨(ok_is_integer c).s hr (by decide), ⟨trivial, trivial⟩⟩, ⟨(ok_is_integer c).s hr (by decide), ⟨trivial, trivial⟩⟩⟩⟩, trivial⟩⟩, ⟨⟨⟨⟨trivial, trivial⟩, trivial⟩, ⟨⟨⟨trivial, trivial⟩, trivial⟩, trivial⟩⟩, ⟨⟨⟨(ok_is_point c).s hr (by decide), ⟨trivial, trivial⟩⟩, ⟨c.x_NoAnswer, trivial⟩, trivial⟩, ⟨trivial, trivial⟩⟩⟩⟩
def N_are_points : List Str := [("points" : Str), ("point" : Str)]
def b_are_points : Sts Unit :=
      (.cons (.ret (.and_ (.isa .list (.v 0)) (.and_ (.cmp .Gt (.blt .len (.cons (.v 0) .nil)) (.int 0)) (.one (.blt .all_ (.cons (.lc (.call ("is_point" : Str) m_is_point (.cons (.v 1) .nil)) (.nm 1) (.of (.v 0)) (.bl true) [(("point" : Str), 1)]) .nil))))))
      .nil)
def m_are_points : List PyData → R PyData := defP N_are_points.length b_are_points
theorem sc_are_points : FnScope N_are_points [("points" : Str)] (defScope (top 33)) := ⟨by kernel_rfl, by kernel_rfl, by kernel_rfl, by decide +kernel, by kernel_rfl, by decide +kernel, by decide +kernel⟩
theorem ok_are_points (c : Facts K mg) : FnG P w K mg base 4 "are_points" m_are_points 1 :=
  def_okS (N := N_are_points) (ps := [("points" : Str)]) (body := b_are_points) (j := 3) c.d_are_points sc_are_points c.fr (fun f fd F => FunD.bindsN F fun _ _ _ _ _ _ us hl => match us, hl with | [_], _ => by kernel_rfl) (by decide +kernel)
      fun A hr => ⟨⟨trivial, ⟨⟨⟨trivial, trivial⟩, trivial⟩, ⟨⟨trivial, trivial, ⟨(ok_is_point c).s hr (by decide), ⟨trivial, trivial⟩⟩⟩, trivial⟩⟩⟩, trivial⟩
def N_middle_point : List Str := [("points" : Str), ("east" : Str), ("_" : Str), ("north" : Str)]
def b_middle_point : Sts Unit :=
      (.cons (.expr (.call ("check" : Str) m_check (.cons (.call ("are_points" : Str) m_are_points (.cons (.v 0) .nil)) .nil)))
      (.cons (.ret (.tup (.cons (.bin .FloorDiv (.blt .sum (.cons (.lc (.v 1) (.tup [1, 2]) (.of (.v 0)) (.bl true) [(("east" : Str), 1), (("_" : Str), 2)]) .nil)) (.blt .len (.cons (.v 0) .nil))) (.cons (.bin .FloorDiv (.blt .sum (.cons (.lc (.v 3) (.tup [2, 3]) (.of (.v 0)) (.bl true) [(("_" : Str), 2), (("north" : Str), 3)]) .nil)) (.blt .len (.cons (.v 0) .nil))) .nil))))
      .nil))
def m_middle_point : List PyData → R PyData := defP N_middle_point.length b_middle_point
theorem sc_middle_point : FnScope N_middle_point [("points" : Str)] (defScope (top 35)) := ⟨by kernel_rfl, by kernel_rfl, by kernel_rfl, by decide +kernel, by kernel_rfl, by decide +kernel, by decide +kernel⟩
theorem ok_middle_point (c : Facts K mg) : FnG P w K mg base 5 "middle_point" m_middle_point 1 :=
  def_okS (N := N_middle_point) (ps := [("points" : Str)]) (body := b_middle_point) (j := 4) c.d_middle_point sc_middle_point c.fr (fun f fd F => FunD.bindsN F fun _ _ _ _ _ _ us hl => match us, hl with | [_], _ => by kernel_rfl) (by decide +kernel)
      fun A hr => ⟨⟨(ok_check c).s hr (by decide), ⟨⟨(ok_are_points c).s hr (by decide), ⟨trivial, trivial⟩⟩, trivial⟩⟩, ⟨⟨⟨⟨⟨trivial, trivial, trivial⟩, trivial⟩, ⟨trivial, trivial⟩⟩, ⟨⟨⟨⟨trivial, trivial, trivial⟩, trivial⟩, ⟨trivial, trivial⟩⟩, trivial⟩⟩, trivial⟩⟩
def N_holds_point : List Str := [("reference" : Str), ("point" : Str), ("east" : Str), ("north" : Str), ("side" : Str)]
def b_holds_point : Sts Unit :=
      (.cons (.expr (.call ("check" : Str) m_check (.cons (.and_ (.call ("is_reference" : Str) m_is_reference (.cons (.v 0) .nil)) (.one (.call ("is_point" : Str) m_is_point (.cons (.v 1) .nil)))) .nil)))
      (.cons (.asg [2, 3, 4] false (.call ("square_by" : Str) m_square_by (.cons (.v 0) .nil)))
      (.cons (.ret (.and_ (.chain .LtE .Lt (.v 2) (.sub (.v 1) (.int 0)) (.bin .Add (.v 2) (.v 4))) (.one (.chain .LtE .Lt (.v 3) (.sub (.v 1) (.int 1)) (.bin .Add (.v 3) (.v 4))))))
      .nil)))
def m_holds_point : List PyData → R PyData := defP N_holds_point.length b_holds_point
theorem sc_holds_point : FnScope N_holds_point [("reference" : Str), ("point" : Str)] (defScope (top 26)) := ⟨by kernel_rfl, by kernel_rfl, by kernel_rfl, by decide +kernel, by kernel_rfl, by decide +kernel, by decide +kernel⟩
theorem ok_holds_point (c : Facts K mg) : FnG P w K mg base 4 "holds_point" m_holds_point 2 :=
  def_okS (N := N_holds_point) (ps := [("reference" : Str), ("point" : Str)]) (body := b_holds_point) (j := 3) c.d_holds_point sc_holds_point c.fr (fun f fd F => FunD.bindsN F fun _ _ _ _ _ _ us hl => match us, hl with | [_, _], _ => by kernel_rfl) (by decide +kernel)
      fun A hr => ⟨⟨(ok_check c).s hr (by decide), ⟨⟨⟨(ok_is_reference c).s hr (by decide), ⟨trivial, trivial⟩⟩, ⟨(ok_is_point c).s hr (by decide), ⟨trivial, trivial⟩⟩⟩, trivial⟩⟩, ⟨⟨(ok_square_by c).s hr (by decide), ⟨trivial, trivial⟩⟩, ⟨⟨⟨trivial, ⟨trivial, trivial⟩, ⟨trivial, trivial⟩⟩, ⟨trivial, ⟨trivial, trivial⟩, ⟨trivial, trivial⟩⟩⟩, trivial⟩⟩⟩
def N_squared : List Str := [("one" : Str), ("other" : Str)]
def b_squared : Sts Unit :=
      (.cons (.ret (.bin .Add (.bin .Mult (.bin .Sub (.sub (.v 0) (.int 0)) (.sub (.v 1) (.int 0))) (.bin .Sub (.sub (.v 0) (.int 0)) (.sub (.v 1) (.int 0)))) (.bin .Mult (.bin .Sub (.sub (.v 0) (.int 1)) (.sub (.v 1) (.int 1))) (.bin .Sub (.sub (.v 0) (.int 1)) (.sub (.v 1) (.int 1))))))
      .nil)
def m_squared : List PyData → R PyData := defP N_squared.length b_squared
theorem sc_squared : FnScope N_squared [("one" : Str), ("other" : Str)] (defScope (top 30)) := ⟨by kernel_rfl, by kernel_rfl, by kernel_rfl, by decide +kernel, by kernel_rfl, by decide +kernel, by decide +kernel⟩
theorem ok_squared (c : Facts K mg) : FnG P w K mg base 1 "squared" m_squared 2 :=
  def_okS (N := N_squared) (ps := [("one" : Str), ("other" : Str)]) (body := b_squared) (j := 0) c.d_squared sc_squared c.fr (fun f fd F => FunD.bindsN F fun _ _ _ _ _ _ us hl => match us, hl with | [_, _], _ => by kernel_rfl) (by decide +kernel)
      fun A hr => ⟨⟨⟨⟨⟨trivial, trivial⟩, ⟨trivial, trivial⟩⟩, ⟨⟨trivial, trivial⟩, ⟨trivial, trivial⟩⟩⟩, ⟨⟨⟨trivial, trivial⟩, ⟨trivial, trivial⟩⟩, ⟨⟨trivial, trivial⟩, ⟨trivial, trivial⟩⟩⟩⟩, trivial⟩
def N_distance_squared : List Str := [("one" : Str), ("other" : Str)]
def b_distance_squared : Sts Unit :=
      (.cons (.expr (.call ("check" : Str) m_check (.cons (.and_ (.call ("is_point" : Str) m_is_point (.cons (.v 0) .nil)) (.one (.call ("is_point" : Str) m_is_point (.cons (.v 1) .nil)))) .nil)))
      (.cons (.ret (.call ("squared" : Str) m_squared (.cons (.v 0) (.cons (.v 1) .nil))))
      .nil))
def m_distance_squared : List PyData → R PyData := defP N_distance_squared.length b_distance_squared
theorem sc_distance_squared : FnScope N_distance_squared [("one" : Str), ("other" : Str)] (defScope (top 31)) := ⟨by kernel_rfl, by kernel_rfl, by kernel_rfl, by decide +kernel, by kernel_rfl, by decide +kernel, by decide +kernel⟩
theorem ok_distance_squared (c : Facts K mg) : FnG P w K mg base 4 "distance_squared" m_distance_squared 2 :=
  def_okS (N := N_distance_squared) (ps := [("one" : Str), ("other" : Str)]) (body := b_distance_squared) (j := 3) c.d_distance_squared sc_distance_squared c.fr (fun f fd F => FunD.bindsN F fun _ _ _ _ _ _ us hl => match us, hl with | [_, _], _ => by kernel_rfl) (by decide +kernel)
      fun A hr => ⟨⟨(ok_check c).s hr (by decide), ⟨⟨⟨(ok_is_point c).s hr (by decide), ⟨trivial, trivial⟩⟩, ⟨(ok_is_point c).s hr (by decide), ⟨trivial, trivial⟩⟩⟩, trivial⟩⟩, ⟨⟨(ok_squared c).s hr (by decide), ⟨trivial, ⟨trivial, trivial⟩⟩⟩, trivial⟩⟩
def N_bearing_word : List Str := [("one" : Str), ("other" : Str), ("east" : Str), ("north" : Str), ("word" : Str)]
def b_bearing_word : Sts Unit :=
      (.cons (.expr (.call ("check" : Str) m_check (.cons (.and_ (.call ("is_point" : Str) m_is_point (.cons (.v 0) .nil)) (.and_ (.call ("is_point" : Str) m_is_point (.cons (.v 1) .nil)) (.one (.cmp .NotEq (.v 0) (.v 1))))) .nil)))
      (.cons (.par [2, 3] [false, false] false (.cons (.bin .Sub (.sub (.v 1) (.int 0)) (.sub (.v 0) (.int 0))) (.cons (.bin .Sub (.sub (.v 1) (.int 1)) (.sub (.v 0) (.int 1))) .nil)))
      (.cons (.set 4 false false (.tup (.cons (.ite (.cmp .Gt (.v 3) (.int 0)) (.str ("n" : Str)) (.str ("s" : Str))) (.cons (.ite (.cmp .Gt (.v 2) (.int 0)) (.str ("e" : Str)) (.str ("w" : Str))) .nil))))
      (.cons (.ite (.cmp .GtE (.blt .abs (.cons (.v 3) .nil)) (.bin .Mult (.int 2) (.blt .abs (.cons (.v 2) .nil))))
      (.cons (.ret (.sub (.v 4) (.int 0)))
      .nil)
      .nil)
      (.cons (.ret (.ite (.cmp .GtE (.blt .abs (.cons (.v 2) .nil)) (.bin .Mult (.int 2) (.blt .abs (.cons (.v 3) .nil)))) (.sub (.v 4) (.int 1)) (.bin .Add (.sub (.v 4) (.int 0)) (.sub (.v 4) (.int 1)))))
      .nil)))))
def m_bearing_word : List PyData → R PyData := defP N_bearing_word.length b_bearing_word
theorem sc_bearing_word : FnScope N_bearing_word [("one" : Str), ("other" : Str)] (defScope (top 32)) := ⟨by kernel_rfl, by kernel_rfl, by kernel_rfl, by decide +kernel, by kernel_rfl, by decide +kernel, by decide +kernel⟩
theorem ok_bearing_word (c : Facts K mg) : FnG P w K mg base 4 "bearing_word" m_bearing_word 2 :=
  def_okS (N := N_bearing_word) (ps := [("one" : Str), ("other" : Str)]) (body := b_bearing_word) (j := 3) c.d_bearing_word sc_bearing_word c.fr (fun f fd F => FunD.bindsN F fun _ _ _ _ _ _ us hl => match us, hl with | [_, _], _ => by kernel_rfl) (by decide +kernel)
      fun A hr => ⟨⟨(ok_check c).s hr (by decide), ⟨⟨⟨(ok_is_point c).s hr (by decide), ⟨trivial, trivial⟩⟩, ⟨⟨(ok_is_point c).s hr (by decide), ⟨trivial, trivial⟩⟩, ⟨trivial, trivial⟩⟩⟩, trivial⟩⟩, ⟨⟨⟨⟨trivial, trivial⟩, ⟨trivial, trivial⟩⟩, ⟨⟨⟨trivial, trivial⟩, ⟨trivial, trivial⟩⟩, trivial⟩⟩, ⟨⟨⟨⟨trivial, trivial⟩, trivial, trivial⟩, ⟨⟨⟨trivial, trivial⟩, trivial, trivial⟩, trivial⟩⟩, ⟨⟨⟨⟨trivial, trivial⟩, ⟨trivial, ⟨trivial, trivial⟩⟩⟩, ⟨⟨trivial, trivial⟩, trivial⟩, trivial⟩, ⟨⟨⟨⟨trivial, trivial⟩, ⟨trivial, ⟨trivial, trivial⟩⟩⟩, ⟨trivial, trivial⟩, ⟨⟨trivial, trivial⟩, ⟨trivial, trivial⟩⟩⟩, trivial⟩⟩⟩⟩⟩
def N_nearest_point : List Str := [("point" : Str), ("points" : Str), ("at" : Str), ("other" : Str)]
def b_nearest_point : Sts Unit :=
      (.cons (.expr (.call ("check" : Str) m_check (.cons (.and_ (.call ("is_point" : Str) m_is_point (.cons (.v 0) .nil)) (.one (.call ("are_points" : Str) m_are_points (.cons (.v 1) .nil)))) .nil)))
      (.cons (.ret (.sub (.blt .min1 (.cons (.lc (.tup (.cons (.call ("squared" : Str) m_squared (.cons (.v 0) (.cons (.v 3) .nil))) (.cons (.v 2) .nil))) (.tup [2, 3]) (.enum (.v 1)) (.bl true) [(("at" : Str), 2), (("other" : Str), 3)]) .nil)) (.int 1)))
      .nil))
def m_nearest_point : List PyData → R PyData := defP N_nearest_point.length b_nearest_point
theorem sc_nearest_point : FnScope N_nearest_point [("point" : Str), ("points" : Str)] (defScope (top 34)) := ⟨by kernel_rfl, by kernel_rfl, by kernel_rfl, by decide +kernel, by kernel_rfl, by decide +kernel, by decide +kernel⟩
theorem ok_nearest_point (c : Facts K mg) : FnG P w K mg base 5 "nearest_point" m_nearest_point 2 :=
  def_okS (N := N_nearest_point) (ps := [("point" : Str), ("points" : Str)]) (body := b_nearest_point) (j := 4) c.d_nearest_point sc_nearest_point c.fr (fun f fd F => FunD.bindsN F fun _ _ _ _ _ _ us hl => match us, hl with | [_, _], _ => by kernel_rfl) (by decide +kernel)
      fun A hr => ⟨⟨(ok_check c).s hr (by decide), ⟨⟨⟨(ok_is_point c).s hr (by decide), ⟨trivial, trivial⟩⟩, ⟨(ok_are_points c).s hr (by decide), ⟨trivial, trivial⟩⟩⟩, trivial⟩⟩, ⟨⟨⟨⟨trivial, trivial, ⟨⟨(ok_squared c).s hr (by decide), ⟨trivial, ⟨trivial, trivial⟩⟩⟩, ⟨trivial, trivial⟩⟩⟩, trivial⟩, trivial⟩, trivial⟩⟩
def N_common_reference : List Str := [("one" : Str), ("other" : Str), ("rows" : Str), ("h" : Str)]
def b_common_reference : Sts Unit :=
      (.cons (.expr (.call ("check" : Str) m_check (.cons (.and_ (.call ("is_point" : Str) m_is_point (.cons (.v 0) .nil)) (.one (.call ("is_point" : Str) m_is_point (.cons (.v 1) .nil)))) .nil)))
      (.cons (.set 2 false false (.lc (.call ("reference_by" : Str) m_reference_by (.cons (.v 0) (.cons (.v 3) .nil))) (.nm 3) (.range2 (.int 1) (.bin .Add (.glob ("MOST_FIGURES" : Str) (.int 4)) (.int 1))) (.cmp .Eq (.call ("reference_by" : Str) m_reference_by (.cons (.v 0) (.cons (.v 3) .nil))) (.call ("reference_by" : Str) m_reference_by (.cons (.v 1) (.cons (.v 3) .nil)))) [(("h" : Str), 3)]))
      (.cons (.ret (.ite (.cmp .Gt (.blt .len (.cons (.v 2) .nil)) (.int 0)) (.sub (.v 2) (.neg (.int 1))) .non))
      .nil)))
def m_common_reference : List PyData → R PyData := defP N_common_reference.length b_common_reference
theorem sc_common_reference : FnScope N_common_reference [("one" : Str), ("other" : Str)] (defScope (top 37)) := ⟨by kernel_rfl, by kernel_rfl, by kernel_rfl, by decide +kernel, by kernel_rfl, by decide +kernel, by decide +kernel⟩
theorem ok_common_reference (c : Facts K mg) : FnG P w K mg base 4 "common_reference" m_common_reference 2 :=
  def_okS (N := N_common_reference) (ps := [("one" : Str), ("other" : Str)]) (body := b_common_reference) (j := 3) c.d_common_reference sc_common_reference c.fr (fun f fd F => FunD.bindsN F fun _ _ _ _ _ _ us hl => match us, hl with | [_, _], _ => by kernel_rfl) (by decide +kernel)
      fun A hr => ⟨⟨(ok_check c).s hr (by decide), ⟨⟨⟨(ok_is_point c).s hr (by decide), ⟨trivial, trivial⟩⟩, ⟨(ok_is_point c).s hr (by decide), ⟨trivial, trivial⟩⟩⟩, trivial⟩⟩, ⟨⟨⟨trivial, ⟨c.g_MOST_FIGURES, trivial⟩⟩, ⟨⟨(ok_reference_by c).s hr (by decide), ⟨trivial, ⟨trivial, trivial⟩⟩⟩, ⟨(ok_reference_by c).s hr (by decide), ⟨trivial, ⟨trivial, trivial⟩⟩⟩⟩, ⟨(ok_reference_by c).s hr (by decide), ⟨trivial, ⟨trivial, trivial⟩⟩⟩⟩, ⟨⟨⟨⟨trivial, trivial⟩, trivial⟩, ⟨trivial, trivial⟩, trivial⟩, trivial⟩⟩⟩
def N_law_told : List Str := [("which" : Str), ("args" : Str), ("e" : Str)]
def b_law_told : Sts Unit :=
      (.cons (.ite (.cmp .Lt (.v 0) (.int 2))
      (.cons (.ret (.pick [(("square_of" : Str), m_square_of), (("middle_point" : Str), m_middle_point)] (.v 0) (.cons (.sub (.v 1) (.int 0)) .nil)))
      .nil)
      .nil)
      (.cons (.ite (.cmp .Lt (.v 0) (.int 10))
      (.cons (.ret (.pick [(("reference_of" : Str), m_reference_of), (("holds_point" : Str), m_holds_point), (("do_touch" : Str), m_do_touch), (("shortened_reference" : Str), m_shortened_reference), (("distance_squared" : Str), m_distance_squared), (("bearing_word" : Str), m_bearing_word), (("nearest_point" : Str), m_nearest_point), (("common_reference" : Str), m_common_reference)] (.bin .Sub (.v 0) (.int 2)) (.cons (.sub (.v 1) (.int 0)) (.cons (.sub (.v 1) (.int 1)) .nil))))
      .nil)
      .nil)
      (.cons (.ret (.pick [(("squares_between" : Str), m_squares_between), (("moved_point" : Str), m_moved_point)] (.bin .Sub (.v 0) (.int 10)) (.cons (.sub (.v 1) (.int 0)) (.cons (.sub (.v 1) (.int 1)) (.cons (.sub (.v 1) (.int 2)) .nil)))))
      .nil)))
def m_law_told : List PyData → R PyData := toldP N_law_told.length b_law_told tab_x
theorem sc_law_told : FnScope N_law_told [("which" : Str), ("args" : Str)] (defScope (top 52)) := ⟨by kernel_rfl, by kernel_rfl, by kernel_rfl, by decide +kernel, by kernel_rfl, by decide +kernel, by decide +kernel⟩
theorem ok_law_told (c : Facts K mg) : FnG P w K mg base 6 "_law_told" m_law_told 2 :=
  told_okS (N := N_law_told) (ps := [("which" : Str), ("args" : Str)]) (body := b_law_told) (j := 5) (i := 2) (n := ("e" : Str)) (sup := ("SignError" : Str)) (g := ("_law_flags" : Str)) (cls := [("NotRight" : Str), ("NotThere" : Str), ("NoAnswer" : Str), ("TooLarge" : Str), ("Malformed" : Str)]) (tab := tab_x) c.d_law_told sc_law_told c.fr (fun f fd F => FunD.bindsN F fun _ _ _ _ _ _ us hl => match us, hl with | [_, _], _ => by kernel_rfl) c.d_law_flags sc_law_flags (fun f fd F => FunD.bindsN F fun _ _ _ _ _ _ us hl => match us, hl with | [_], _ => by kernel_rfl) (by decide +kernel) c.xt (by decide +kernel)
      fun A hr => ⟨⟨⟨trivial, trivial⟩, ⟨⟨⟨(ok_square_of c).s hr (by decide), ⟨(ok_middle_point c).s hr (by decide), trivial⟩⟩, trivial, ⟨⟨trivial, trivial⟩, trivial⟩⟩, trivial⟩, trivial⟩, ⟨⟨⟨trivial, trivial⟩, ⟨⟨⟨(ok_reference_of c).s hr (by decide), ⟨(ok_holds_point c).s hr (by decide), ⟨(ok_do_touch c).s hr (by decide), ⟨(ok_shortened_reference c).s hr (by decide), ⟨(ok_distance_squared c).s hr (by decide), ⟨(ok_bearing_word c).s hr (by decide), ⟨(ok_nearest_point c).s hr (by decide), ⟨(ok_common_reference c).s hr (by decide), trivial⟩⟩⟩⟩⟩⟩⟩⟩, ⟨trivial, trivial⟩, ⟨⟨trivial, trivial⟩, ⟨⟨trivial, trivial⟩, trivial⟩⟩⟩, trivial⟩, trivial⟩, ⟨⟨⟨(ok_squares_between c).s hr (by decide), ⟨(ok_moved_point c).s hr (by decide), trivial⟩⟩, ⟨trivial, trivial⟩, ⟨⟨trivial, trivial⟩, ⟨⟨trivial, trivial⟩, ⟨⟨trivial, trivial⟩, trivial⟩⟩⟩⟩, trivial⟩⟩⟩
def N_law_word : List Str := [("one" : Str), ("other" : Str), ("east" : Str), ("north" : Str), ("up" : Str), ("right" : Str)]
def b_law_word : Sts Unit :=
      (.cons (.par [2, 3] [false, false] false (.cons (.bin .Sub (.sub (.v 1) (.int 0)) (.sub (.v 0) (.int 0))) (.cons (.bin .Sub (.sub (.v 1) (.int 1)) (.sub (.v 0) (.int 1))) .nil)))
      (.cons (.par [4, 5] [false, false] false (.cons (.sub (.lst (.cons (.str ("s" : Str)) (.cons (.str ("n" : Str)) .nil))) (.blt .int_ (.cons (.cmp .Gt (.v 3) (.int 0)) .nil))) (.cons (.sub (.lst (.cons (.str ("w" : Str)) (.cons (.str ("e" : Str)) .nil))) (.blt .int_ (.cons (.cmp .Gt (.v 2) (.int 0)) .nil))) .nil)))
      (.cons (.ite (.cmp .GtE (.blt .abs (.cons (.v 2) .nil)) (.bin .Mult (.int 2) (.blt .abs (.cons (.v 3) .nil))))
      (.cons (.ret (.v 5))
      .nil)
      .nil)
      (.cons (.ite (.cmp .GtE (.blt .abs (.cons (.v 3) .nil)) (.bin .Mult (.int 2) (.blt .abs (.cons (.v 2) .nil))))
      (.cons (.ret (.v 4))
      .nil)
      .nil)
      (.cons (.ret (.bin .Add (.v 4) (.v 5)))
      .nil)))))
def m_law_word : List PyData → R PyData := defP N_law_word.length b_law_word
theorem sc_law_word : FnScope N_law_word [("one" : Str), ("other" : Str)] (defScope (top 53)) := ⟨by kernel_rfl, by kernel_rfl, by kernel_rfl, by decide +kernel, by kernel_rfl, by decide +kernel, by decide +kernel⟩
theorem ok_law_word (c : Facts K mg) : FnG P w K mg base 1 "_law_word" m_law_word 2 :=
  def_okS (N := N_law_word) (ps := [("one" : Str), ("other" : Str)]) (body := b_law_word) (j := 0) c.d_law_word sc_law_word c.fr (fun f fd F => FunD.bindsN F fun _ _ _ _ _ _ us hl => match us, hl with | [_, _], _ => by kernel_rfl) (by decide +kernel)
      fun A hr => ⟨⟨⟨⟨trivial, trivial⟩, ⟨trivial, trivial⟩⟩, ⟨⟨⟨trivial, trivial⟩, ⟨trivial, trivial⟩⟩, trivial⟩⟩, ⟨⟨⟨⟨trivial, ⟨trivial, trivial⟩⟩, ⟨⟨trivial, trivial⟩, trivial⟩⟩, ⟨⟨⟨trivial, ⟨trivial, trivial⟩⟩, ⟨⟨trivial, trivial⟩, trivial⟩⟩, trivial⟩⟩, ⟨⟨⟨⟨trivial, trivial⟩, ⟨trivial, ⟨trivial, trivial⟩⟩⟩, ⟨trivial, trivial⟩, trivial⟩, ⟨⟨⟨⟨trivial, trivial⟩, ⟨trivial, ⟨trivial, trivial⟩⟩⟩, ⟨trivial, trivial⟩, trivial⟩, ⟨⟨trivial, trivial⟩, trivial⟩⟩⟩⟩⟩
def N_takes_square : List Str := [("reference" : Str), ("east" : Str), ("north" : Str), ("side" : Str), ("many" : Str), ("unit" : Str), ("first" : Str), ("second" : Str), ("corner" : Str), ("sign" : Str)]
def b_takes_square : Sts Unit :=
      (.cons (.ite (.or_ (.not_ (.isa .str (.v 0))) (.one (.cmp .NotIn (.blt .len (.cons (.v 0) .nil)) (.tup (.cons (.int 4) (.cons (.int 6) (.cons (.int 8) (.cons (.int 10) .nil))))))))
      (.cons (.ret (.bl false))
      .nil)
      .nil)
      (.cons (.ite (.or_ (.not_ (.blt .all_ (.cons (.lc (.cmp .In (.v 9) (.glob ("LETTERS_checkmarks" : Str) (.str ("ABCDEFGHJKLMNPQRSTUVWXYZ" : Str)))) (.nm 9) (.sign (.slH (.v 0) (.int 2))) (.bl true) [(("sign" : Str), 9)]) .nil))) (.one (.not_ (.blt .all_ (.cons (.lc (.cmp .In (.v 9) (.glob ("FIGURES" : Str) (.str ("0123456789" : Str)))) (.nm 9) (.sign (.slL (.v 0) (.int 2))) (.bl true) [(("sign" : Str), 9)]) .nil)))))
      (.cons (.ret (.bl false))
      .nil)
      .nil)
      (.cons (.set 4 false false (.bin .FloorDiv (.bin .Sub (.blt .len (.cons (.v 0) .nil)) (.int 2)) (.int 2)))
      (.cons (.set 5 false false (.sub (.tup (.cons (.int 1000) (.cons (.int 100) (.cons (.int 10) (.cons (.int 1) .nil))))) (.bin .Sub (.v 4) (.int 1))))
      (.cons (.par [6, 7] [false, false] false (.cons (.blt .int_ (.cons (.sl (.v 0) (.int 2) (.bin .Add (.int 2) (.v 4))) .nil)) (.cons (.blt .int_ (.cons (.slL (.v 0) (.bin .Add (.int 2) (.v 4))) .nil)) .nil)))
      (.cons (.set 8 false false (.tup (.cons (.bin .Add (.bin .Mult (.int 10000) (.op2 .sindex (.glob ("LETTERS_checkmarks" : Str) (.str ("ABCDEFGHJKLMNPQRSTUVWXYZ" : Str))) (.sub (.v 0) (.int 0)))) (.bin .Mult (.v 5) (.v 6))) (.cons (.bin .Add (.bin .Mult (.int 10000) (.op2 .sindex (.glob ("LETTERS_checkmarks" : Str) (.str ("ABCDEFGHJKLMNPQRSTUVWXYZ" : Str))) (.sub (.v 0) (.int 1)))) (.bin .Mult (.v 5) (.v 7))) .nil))))
      (.cons (.ret (.cmp .Eq (.tup (.cons (.v 1) (.cons (.v 2) (.cons (.v 3) .nil)))) (.tup (.cons (.sub (.v 8) (.int 0)) (.cons (.sub (.v 8) (.int 1)) (.cons (.v 5) .nil))))))
      .nil)))))))
def m_takes_square : List PyData → R PyData := defP N_takes_square.length b_takes_square
theorem sc_takes_square : FnScope N_takes_square [("reference" : Str), ("east" : Str), ("north" : Str), ("side" : Str)] (defScope (top 41)) := ⟨by kernel_rfl, by kernel_rfl, by kernel_rfl, by decide +kernel, by kernel_rfl, by decide +kernel, by decide +kernel⟩
theorem ok_takes_square (c : Facts K mg) : FnG P w K mg base 1 "takes_square" m_takes_square 4 :=
  def_okS (N := N_takes_square) (ps := [("reference" : Str), ("east" : Str), ("north" : Str), ("side" : Str)]) (body := b_takes_square) (j := 0) c.d_takes_square sc_takes_square c.fr (fun f fd F => FunD.bindsN F fun _ _ _ _ _ _ us hl => match us, hl with | [_, _, _, _], _ => by kernel_rfl) (by decide +kernel)
      fun A hr => ⟨⟨⟨trivial, ⟨⟨trivial, trivial⟩, ⟨trivial, ⟨trivial, ⟨trivial, ⟨trivial, trivial⟩⟩⟩⟩⟩⟩, ⟨trivial, trivial⟩, trivial⟩, ⟨⟨⟨⟨⟨⟨trivial, trivial⟩, trivial, ⟨trivial, c.g_LETTERS_checkmarks⟩⟩, trivial⟩, ⟨⟨⟨trivial, trivial⟩, trivial, ⟨trivial, c.g_FIGURES⟩⟩, trivial⟩⟩, ⟨trivial, trivial⟩, trivial⟩, ⟨⟨⟨⟨trivial, trivial⟩, trivial⟩, trivial⟩, ⟨⟨⟨trivial, ⟨trivial, ⟨trivial, ⟨trivial, trivial⟩⟩⟩⟩, ⟨trivial, trivial⟩⟩, ⟨⟨⟨⟨trivial, trivial, ⟨trivial, trivial⟩⟩, trivial⟩, ⟨⟨⟨trivial, ⟨trivial, trivial⟩⟩, trivial⟩, trivial⟩⟩, ⟨⟨⟨⟨trivial, ⟨c.g_LETTERS_checkmarks, ⟨trivial, trivial⟩⟩⟩, ⟨trivial, trivial⟩⟩, ⟨⟨⟨trivial, ⟨c.g_LETTERS_checkmarks, ⟨trivial, trivial⟩⟩⟩, ⟨trivial, trivial⟩⟩, trivial⟩⟩, ⟨⟨⟨trivial, ⟨trivial, ⟨trivial, trivial⟩⟩⟩, ⟨⟨trivial, trivial⟩, ⟨⟨trivial, trivial⟩, ⟨trivial, trivial⟩⟩⟩⟩, trivial⟩⟩⟩⟩⟩⟩⟩
def N_law_between : List Str := [("one" : Str), ("other" : Str), ("h" : Str), ("side" : Str), ("found" : Str), ("west" : Str), ("south" : Str), ("north" : Str), ("east" : Str)]
def b_law_between : Sts Unit :=
      (.cons (.par [3, 4] [false, false] false (.cons (.sub (.lst (.cons (.int 1000) (.cons (.int 100) (.cons (.int 10) (.cons (.int 1) .nil))))) (.bin .Sub (.v 2) (.int 1))) (.cons (.lst .nil) .nil)))
      (.cons (.par [5, 6] [false, false] false (.cons (.bin .Mult (.bin .FloorDiv (.blt .min2 (.cons (.sub (.v 0) (.int 0)) (.cons (.sub (.v 1) (.int 0)) .nil))) (.v 3)) (.v 3)) (.cons (.bin .Mult (.bin .FloorDiv (.blt .min2 (.cons (.sub (.v 0) (.int 1)) (.cons (.sub (.v 1) (.int 1)) .nil))) (.v 3)) (.v 3)) .nil)))
      (.cons (.for_ [] (.nm 7) (.range3 (.v 6) (.bin .Add (.blt .max2 (.cons (.sub (.v 0) (.int 1)) (.cons (.sub (.v 1) (.int 1)) .nil))) (.int 1)) (.v 3))
      (.cons (.set 4 false false (.bin .Add (.v 4) (.lc (.call ("_law_reference" : Str) m_law_reference (.cons (.tup (.cons (.v 8) (.cons (.v 7) .nil))) (.cons (.v 2) .nil))) (.nm 8) (.range3 (.v 5) (.bin .Add (.blt .max2 (.cons (.sub (.v 0) (.int 0)) (.cons (.sub (.v 1) (.int 0)) .nil))) (.int 1)) (.v 3)) (.bl true) [(("east" : Str), 8)])))
      .nil))
      (.cons (.ret (.v 4))
      .nil))))
def m_law_between : List PyData → R PyData := defP N_law_between.length b_law_between
theorem sc_law_between : FnScope N_law_between [("one" : Str), ("other" : Str), ("h" : Str)] (defScope (top 54)) := ⟨by kernel_rfl, by kernel_rfl, by kernel_rfl, by decide +kernel, by kernel_rfl, by decide +kernel, by decide +kernel⟩
theorem ok_law_between (c : Facts K mg) : FnG P w K mg base 2 "_law_between" m_law_between 3 :=
  def_okS (N := N_law_between) (ps := [("one" : Str), ("other" : Str), ("h" : Str)]) (body := b_law_between) (j := 1) c.d_law_between sc_law_between c.fr (fun f fd F => FunD.bindsN F fun _ _ _ _ _ _ us hl => match us, hl with | [_, _, _], _ => by kernel_rfl) (by decide +kernel)
      fun A hr => ⟨⟨⟨⟨trivial, ⟨trivial, ⟨trivial, ⟨trivial, trivial⟩⟩⟩⟩, ⟨trivial, trivial⟩⟩, ⟨trivial, trivial⟩⟩, ⟨⟨⟨⟨⟨⟨trivial, trivial⟩, ⟨⟨trivial, trivial⟩, trivial⟩⟩, trivial⟩, trivial⟩, ⟨⟨⟨⟨⟨trivial, trivial⟩, ⟨⟨trivial, trivial⟩, trivial⟩⟩, trivial⟩, trivial⟩, trivial⟩⟩, ⟨⟨⟨trivial, ⟨⟨⟨trivial, trivial⟩, ⟨⟨trivial, trivial⟩, trivial⟩⟩, trivial⟩, trivial⟩, ⟨⟨trivial, ⟨⟨trivial, ⟨⟨⟨trivial, trivial⟩, ⟨⟨trivial, trivial⟩, trivial⟩⟩, trivial⟩, trivial⟩, trivial, ⟨(ok_law_reference c).s hr (by decide), ⟨⟨trivial, ⟨trivial, trivial⟩⟩, ⟨trivial, trivial⟩⟩⟩⟩⟩, trivial⟩⟩, ⟨trivial, trivial⟩⟩⟩⟩
def N_law : List Str := [("script" : Str), ("draws" : Str), ("refused" : Str), ("none" : Str), ("large" : Str), ("turn" : Str), ("one" : Str), ("far" : Str), ("other" : Str), ("h" : Str), ("m" : Str), ("first" : Str), ("second" : Str), ("a" : Str), ("b" : Str), ("touch" : Str), ("same" : Str), ("got" : Str), ("word" : Str), ("due" : Str), ("squares" : Str), ("near" : Str), ("k" : Str), ("side" : Str), ("many" : Str), ("points" : Str), ("rows" : Str), ("middle" : Str), ("east" : Str), ("north" : Str), ("moved" : Str), ("bad" : Str), ("odd" : Str), ("cell" : Str), ("some" : Str), ("calls" : Str), ("step" : Str), ("point" : Str), ("which" : Str), ("args" : Str)]
def b_law : Sts (List Int) :=
      (.cons (.par [2, 3, 4] [false, false, false] false (.cons (.lst (.cons (.bl true) (.cons (.bl false) (.cons (.bl false) (.cons (.bl false) (.cons (.bl false) .nil)))))) (.cons (.lst (.cons (.bl false) (.cons (.bl false) (.cons (.bl true) (.cons (.bl false) (.cons (.bl false) .nil)))))) (.cons (.lst (.cons (.bl false) (.cons (.bl false) (.cons (.bl false) (.cons (.bl true) (.cons (.bl false) .nil)))))) .nil))))
      (.cons (.for_ [] (.nm 5) (.range1 (.int 6))
      (.cons (.par [6, 7] [false, false] false (.cons (.callS ("_law_point" : Str) m_law_point .nil) (.cons (.callS ("_law_pick" : Str) m_law_pick (.cons (.lst (.cons (.int 2) (.cons (.int 30) (.cons (.int 900) (.cons (.int 30000) .nil))))) .nil)) .nil)))
      (.cons (.par [8, 9, 10] [false, false, false] false (.cons (.callS ("_law_near" : Str) m_law_near (.cons (.v 6) (.cons (.v 7) .nil))) (.cons (.bin .Add (.int 1) (.callS ("_law_take" : Str) m_law_take (.cons (.int 4) .nil))) (.cons (.bin .Add (.int 1) (.callS ("_law_take" : Str) m_law_take (.cons (.int 4) .nil))) .nil))))
      (.cons (.par [11, 12] [false, false] false (.cons (.call ("_law_reference" : Str) m_law_reference (.cons (.v 6) (.cons (.v 9) .nil))) (.cons (.call ("_law_reference" : Str) m_law_reference (.cons (.v 8) (.cons (.v 10) .nil))) .nil)))
      (.cons (.par [13, 14] [false, false] false (.cons (.call ("_law_square" : Str) m_law_square (.cons (.v 11) .nil)) (.cons (.call ("_law_square" : Str) m_law_square (.cons (.v 12) .nil)) .nil)))
      (.cons (.set 15 false false (.cmp .Eq (.lc (.v 22) (.nm 22) (.of (.lst (.cons (.int 0) (.cons (.int 1) .nil)))) (.or_ (.cmp .Gt (.sub (.v 13) (.v 22)) (.bin .Add (.sub (.v 14) (.v 22)) (.sub (.v 14) (.int 2)))) (.one (.cmp .Gt (.sub (.v 14) (.v 22)) (.bin .Add (.sub (.v 13) (.v 22)) (.sub (.v 13) (.int 2)))))) [(("k" : Str), 22)]) (.lst .nil)))
      (.cons (.set 16 false false (.lc (.call ("_law_reference" : Str) m_law_reference (.cons (.v 6) (.cons (.v 22) .nil))) (.nm 22) (.range3 (.int 4) (.int 0) (.neg (.int 1))) (.cmp .Eq (.call ("_law_reference" : Str) m_law_reference (.cons (.v 6) (.cons (.v 22) .nil))) (.call ("_law_reference" : Str) m_law_reference (.cons (.v 8) (.cons (.v 22) .nil)))) [(("k" : Str), 22)]))
      (.cons (.set 17 false false (.lst (.cons (.call ("_law_told" : Str) m_law_told (.cons (.int 2) (.cons (.tup (.cons (.v 6) (.cons (.v 9) .nil))) .nil))) (.cons (.call ("_law_told" : Str) m_law_told (.cons (.int 0) (.cons (.tup (.cons (.v 11) .nil)) .nil))) (.cons (.call ("_law_told" : Str) m_law_told (.cons (.int 3) (.cons (.tup (.cons (.v 11) (.cons (.v 6) .nil))) .nil))) (.cons (.call ("_law_told" : Str) m_law_told (.cons (.int 3) (.cons (.tup (.cons (.v 12) (.cons (.v 6) .nil))) .nil))) (.cons (.call ("_law_told" : Str) m_law_told (.cons (.int 4) (.cons (.tup (.cons (.v 11) (.cons (.v 12) .nil))) .nil))) (.cons (.call ("_law_told" : Str) m_law_told (.cons (.int 9) (.cons (.tup (.cons (.v 6) (.cons (.v 8) .nil))) .nil))) .nil))))))))
      (.cons (.ite (.not_ (.call ("_law_same" : Str) (m_law_same 12) (.cons (.v 17) (.cons (.lst (.cons (.v 11) (.cons (.v 13) (.cons (.bl true) (.cons (.and_ (.chain .LtE .Lt (.sub (.v 14) (.int 0)) (.sub (.v 6) (.int 0)) (.bin .Add (.sub (.v 14) (.int 0)) (.sub (.v 14) (.int 2)))) (.one (.chain .LtE .Lt (.sub (.v 14) (.int 1)) (.sub (.v 6) (.int 1)) (.bin .Add (.sub (.v 14) (.int 1)) (.sub (.v 14) (.int 2)))))) (.cons (.v 15) (.cons (.sub (.bin .Add (.v 16) (.lst (.cons .non .nil))) (.int 0)) .nil))))))) .nil))))
      (.cons (.ret (.bl false))
      .nil)
      .nil)
      (.cons (.set 7 false false (.bin .Add (.bin .Mult (.bin .Sub (.sub (.v 6) (.int 0)) (.sub (.v 8) (.int 0))) (.bin .Sub (.sub (.v 6) (.int 0)) (.sub (.v 8) (.int 0)))) (.bin .Mult (.bin .Sub (.sub (.v 6) (.int 1)) (.sub (.v 8) (.int 1))) (.bin .Sub (.sub (.v 6) (.int 1)) (.sub (.v 8) (.int 1))))))
      (.cons (.set 18 false false (.v 2))
      (.cons (.ite (.cmp .NotEq (.v 6) (.v 8))
      (.cons (.set 18 false false (.call ("_law_word" : Str) m_law_word (.cons (.v 6) (.cons (.v 8) .nil))))
      .nil)
      .nil)
      (.cons (.ite (.not_ (.call ("_law_same" : Str) (m_law_same 12) (.cons (.lst (.cons (.call ("_law_told" : Str) m_law_told (.cons (.int 6) (.cons (.tup (.cons (.v 6) (.cons (.v 8) .nil))) .nil))) (.cons (.call ("_law_told" : Str) m_law_told (.cons (.int 7) (.cons (.tup (.cons (.v 6) (.cons (.v 8) .nil))) .nil))) (.cons (.call ("is_point" : Str) m_is_point (.cons (.v 6) .nil)) (.cons (.call ("is_reference" : Str) m_is_reference (.cons (.v 11) .nil)) .nil))))) (.cons (.lst (.cons (.v 7) (.cons (.v 18) (.cons (.bl true) (.cons (.bl true) .nil))))) .nil))))
      (.cons (.ret (.bl false))
      .nil)
      .nil)
      (.cons (.set 19 false false (.v 2))
      (.cons (.ite (.cmp .LtE (.v 10) (.v 9))
      (.cons (.set 19 false false (.call ("_law_reference" : Str) m_law_reference (.cons (.v 6) (.cons (.v 10) .nil))))
      .nil)
      .nil)
      (.cons (.set 20 false false (.lst (.cons (.call ("takes_square" : Str) m_takes_square (.cons (.v 11) (.cons (.sub (.v 13) (.int 0)) (.cons (.sub (.v 13) (.int 1)) (.cons (.sub (.v 13) (.int 2)) .nil))))) (.cons (.call ("takes_square" : Str) m_takes_square (.cons (.v 11) (.cons (.bin .Add (.sub (.v 13) (.int 0)) (.int 1)) (.cons (.sub (.v 13) (.int 1)) (.cons (.sub (.v 13) (.int 2)) .nil))))) (.cons (.call ("takes_square" : Str) m_takes_square (.cons (.v 11) (.cons (.sub (.v 13) (.int 0)) (.cons (.sub (.v 13) (.int 1)) (.cons (.bin .Mult (.int 10) (.sub (.v 13) (.int 2))) .nil))))) .nil)))))
      (.cons (.ite (.not_ (.call ("_law_same" : Str) (m_law_same 12) (.cons (.bin .Add (.lst (.cons (.call ("_law_told" : Str) m_law_told (.cons (.int 5) (.cons (.tup (.cons (.v 11) (.cons (.v 10) .nil))) .nil))) .nil)) (.v 20)) (.cons (.lst (.cons (.v 19) (.cons (.bl true) (.cons (.bl false) (.cons (.bl false) .nil))))) .nil))))
      (.cons (.ret (.bl false))
      .nil)
      .nil)
      (.cons (.par [21, 22] [false, false] false (.cons (.callS ("_law_near" : Str) m_law_near (.cons (.v 6) (.cons (.callS ("_law_pick" : Str) m_law_pick (.cons (.lst (.cons (.int 3) (.cons (.int 40) (.cons (.int 900) .nil)))) .nil)) .nil))) (.cons (.bin .Add (.int 1) (.callS ("_law_take" : Str) m_law_take (.cons (.int 4) .nil))) .nil)))
      (.cons (.set 23 false false (.sub (.lst (.cons (.int 1000) (.cons (.int 100) (.cons (.int 10) (.cons (.int 1) .nil))))) (.bin .Sub (.v 22) (.int 1))))
      (.cons (.set 24 false false (.bin .Mult (.bin .Add (.blt .abs (.cons (.bin .Sub (.bin .FloorDiv (.sub (.v 6) (.int 0)) (.v 23)) (.bin .FloorDiv (.sub (.v 21) (.int 0)) (.v 23))) .nil)) (.int 1)) (.bin .Add (.blt .abs (.cons (.bin .Sub (.bin .FloorDiv (.sub (.v 6) (.int 1)) (.v 23)) (.bin .FloorDiv (.sub (.v 21) (.int 1)) (.v 23))) .nil)) (.int 1))))
      (.cons (.set 19 false false (.v 4))
      (.cons (.ite (.cmp .Lt (.v 24) (.int 401))
      (.cons (.set 19 false false (.call ("_law_between" : Str) m_law_between (.cons (.v 6) (.cons (.v 21) (.cons (.v 22) .nil)))))
      .nil)
      .nil)
      (.cons (.ite (.not_ (.call ("_law_same" : Str) (m_law_same 12) (.cons (.call ("_law_told" : Str) m_law_told (.cons (.int 10) (.cons (.tup (.cons (.v 6) (.cons (.v 21) (.cons (.v 22) .nil)))) .nil))) (.cons (.v 19) .nil))))
      (.cons (.ret (.bl false))
      .nil)
      .nil)
      (.cons (.set 25 false false (.lc (.callS ("_law_near" : Str) m_law_near (.cons (.v 6) (.cons (.int 9) .nil))) (.nm 36) (.range1 (.bin .Add (.int 1) (.callS ("_law_take" : Str) m_law_take (.cons (.int 6) .nil)))) (.bl true) [(("step" : Str), 36)]))
      (.cons (.set 26 false false (.lc (.bin .Add (.bin .Mult (.bin .Sub (.sub (.v 37) (.int 0)) (.sub (.v 8) (.int 0))) (.bin .Sub (.sub (.v 37) (.int 0)) (.sub (.v 8) (.int 0)))) (.bin .Mult (.bin .Sub (.sub (.v 37) (.int 1)) (.sub (.v 8) (.int 1))) (.bin .Sub (.sub (.v 37) (.int 1)) (.sub (.v 8) (.int 1))))) (.nm 37) (.of (.v 25)) (.bl true) [(("point" : Str), 37)]))
      (.cons (.set 27 false false (.tup (.cons (.bin .FloorDiv (.blt .sum (.cons (.lc (.sub (.v 37) (.int 0)) (.nm 37) (.of (.v 25)) (.bl true) [(("point" : Str), 37)]) .nil)) (.blt .len (.cons (.v 25) .nil))) (.cons (.bin .FloorDiv (.blt .sum (.cons (.lc (.sub (.v 37) (.int 1)) (.nm 37) (.of (.v 25)) (.bl true) [(("point" : Str), 37)]) .nil)) (.blt .len (.cons (.v 25) .nil))) .nil))))
      (.cons (.par [28, 29] [false, false] false (.cons (.bin .Sub (.callS ("_law_take" : Str) m_law_take (.cons (.int 600) .nil)) (.int 300)) (.cons (.bin .Sub (.callS ("_law_take" : Str) m_law_take (.cons (.int 600) .nil)) (.int 300)) .nil)))
      (.cons (.set 30 false false (.tup (.cons (.bin .Add (.sub (.v 6) (.int 0)) (.v 28)) (.cons (.bin .Add (.sub (.v 6) (.int 1)) (.v 29)) .nil))))
      (.cons (.ite (.or_ (.cmp .Lt (.blt .min1 (.cons (.v 30) .nil)) (.int 0)) (.one (.cmp .Gt (.blt .max1 (.cons (.v 30) .nil)) (.int 239999))))
      (.cons (.set 30 false false (.v 3))
      .nil)
      .nil)
      (.cons (.ite (.not_ (.call ("_law_same" : Str) (m_law_same 12) (.cons (.lst (.cons (.call ("_law_told" : Str) m_law_told (.cons (.int 8) (.cons (.tup (.cons (.v 8) (.cons (.blt .list_ (.cons (.v 25) .nil)) .nil))) .nil))) (.cons (.call ("_law_told" : Str) m_law_told (.cons (.int 1) (.cons (.tup (.cons (.blt .list_ (.cons (.v 25) .nil)) .nil)) .nil))) (.cons (.call ("_law_told" : Str) m_law_told (.cons (.int 11) (.cons (.tup (.cons (.v 6) (.cons (.v 28) (.cons (.v 29) .nil)))) .nil))) .nil)))) (.cons (.lst (.cons (.op2 .lindex (.v 26) (.blt .min1 (.cons (.v 26) .nil))) (.cons (.v 27) (.cons (.v 30) .nil)))) .nil))))
      (.cons (.ret (.bl false))
      .nil)
      .nil)
      (.cons (.par [31, 32] [false, false] false (.cons (.callS ("_law_pick" : Str) m_law_pick (.cons (.lst (.cons .non (.cons (.str ("" : Str)) (.cons (.str ("AB1" : Str)) (.cons (.str ("AI12" : Str)) (.cons (.str ("OA12" : Str)) (.cons (.str ("ab12" : Str)) (.cons (.str ("AB123456789" : Str)) (.cons (.str ("AB1x" : Str)) (.cons (.int 5) .nil)))))))))) .nil)) (.cons (.callS ("_law_pick" : Str) m_law_pick (.cons (.lst (.cons .non (.cons (.tup (.cons (.int 0) .nil)) (.cons (.tup (.cons (.neg (.int 1)) (.cons (.int 0) .nil))) (.cons (.tup (.cons (.int 0) (.cons (.int 240000) .nil))) (.cons (.tup (.cons (.bl true) (.cons (.int 0) .nil))) (.cons (.lst (.cons (.int 0) (.cons (.int 0) .nil))) .nil))))))) .nil)) .nil)))
      (.cons (.par [33, 34] [false, false] false (.cons (.callS ("_law_pick" : Str) m_law_pick (.cons (.lst (.cons (.int 0) (.cons (.int 5) (.cons .non (.cons (.bl true) .nil))))) .nil)) (.cons (.callS ("_law_pick" : Str) m_law_pick (.cons (.lst (.cons .non (.cons (.lst .nil) (.cons (.tup (.cons (.v 6) .nil)) (.cons (.lst (.cons (.v 32) .nil)) .nil))))) .nil)) .nil)))
      (.cons (.set 35 false false (.lst (.cons (.tup (.cons (.int 0) (.cons (.tup (.cons (.v 31) .nil)) .nil))) (.cons (.tup (.cons (.int 1) (.cons (.tup (.cons (.v 34) .nil)) .nil))) (.cons (.tup (.cons (.int 2) (.cons (.tup (.cons (.v 32) (.cons (.int 1) .nil))) .nil))) (.cons (.tup (.cons (.int 2) (.cons (.tup (.cons (.v 6) (.cons (.v 33) .nil))) .nil))) (.cons (.tup (.cons (.int 3) (.cons (.tup (.cons (.v 31) (.cons (.v 6) .nil))) .nil))) (.cons (.tup (.cons (.int 3) (.cons (.tup (.cons (.v 11) (.cons (.v 32) .nil))) .nil))) (.cons (.tup (.cons (.int 4) (.cons (.tup (.cons (.v 31) (.cons (.v 11) .nil))) .nil))) .nil)))))))))
      (.cons (.set 35 false false (.bin .Add (.v 35) (.lst (.cons (.tup (.cons (.int 4) (.cons (.tup (.cons (.v 11) (.cons (.v 31) .nil))) .nil))) (.cons (.tup (.cons (.int 5) (.cons (.tup (.cons (.v 31) (.cons (.int 1) .nil))) .nil))) (.cons (.tup (.cons (.int 5) (.cons (.tup (.cons (.v 11) (.cons (.v 33) .nil))) .nil))) (.cons (.tup (.cons (.int 6) (.cons (.tup (.cons (.v 32) (.cons (.v 6) .nil))) .nil))) (.cons (.tup (.cons (.int 6) (.cons (.tup (.cons (.v 6) (.cons (.v 32) .nil))) .nil))) (.cons (.tup (.cons (.int 7) (.cons (.tup (.cons (.v 32) (.cons (.v 6) .nil))) .nil))) (.cons (.tup (.cons (.int 7) (.cons (.tup (.cons (.v 6) (.cons (.v 32) .nil))) .nil))) .nil))))))))))
      (.cons (.set 35 false false (.bin .Add (.v 35) (.lst (.cons (.tup (.cons (.int 8) (.cons (.tup (.cons (.v 32) (.cons (.lst (.cons (.v 6) .nil)) .nil))) .nil))) (.cons (.tup (.cons (.int 8) (.cons (.tup (.cons (.v 6) (.cons (.v 34) .nil))) .nil))) (.cons (.tup (.cons (.int 9) (.cons (.tup (.cons (.v 32) (.cons (.v 6) .nil))) .nil))) (.cons (.tup (.cons (.int 9) (.cons (.tup (.cons (.v 6) (.cons (.v 32) .nil))) .nil))) (.cons (.tup (.cons (.int 10) (.cons (.tup (.cons (.v 32) (.cons (.v 6) (.cons (.int 1) .nil)))) .nil))) .nil))))))))
      (.cons (.set 35 false false (.bin .Add (.v 35) (.lst (.cons (.tup (.cons (.int 10) (.cons (.tup (.cons (.v 6) (.cons (.v 32) (.cons (.int 1) .nil)))) .nil))) (.cons (.tup (.cons (.int 10) (.cons (.tup (.cons (.v 6) (.cons (.v 6) (.cons (.v 33) .nil)))) .nil))) (.cons (.tup (.cons (.int 11) (.cons (.tup (.cons (.v 32) (.cons (.int 0) (.cons (.int 0) .nil)))) .nil))) (.cons (.tup (.cons (.int 11) (.cons (.tup (.cons (.v 6) (.cons .non (.cons (.int 0) .nil)))) .nil))) (.cons (.tup (.cons (.int 11) (.cons (.tup (.cons (.v 6) (.cons (.int 0) (.cons (.bl true) .nil)))) .nil))) .nil))))))))
      (.cons (.ite (.not_ (.call ("_law_same" : Str) (m_law_same 12) (.cons (.bin .Add (.lc (.call ("_law_told" : Str) m_law_told (.cons (.v 38) (.cons (.v 39) .nil))) (.tup [38, 39]) (.of (.v 35)) (.bl true) [(("which" : Str), 38), (("args" : Str), 39)]) (.lst (.cons (.call ("is_reference" : Str) m_is_reference (.cons (.v 31) .nil)) (.cons (.call ("is_point" : Str) m_is_point (.cons (.v 32) .nil)) .nil)))) (.cons (.bin .Add (.bin .Mult (.lst (.cons (.v 2) .nil)) (.int 24)) (.lst (.cons (.bl false) (.cons (.bl false) .nil)))) .nil))))
      (.cons (.ret (.bl false))
      .nil)
      .nil)
      .nil)))))))))))))))))))))))))))))))))))))
      (.cons (.set 17 false false (.lst (.cons (.call ("reference_of" : Str) m_reference_of (.cons (.tup (.cons (.int 12345) (.cons (.int 6789) .nil))) (.cons (.int 3) .nil))) (.cons (.call ("square_of" : Str) m_square_of (.cons (.str ("BA2367" : Str)) .nil)) (.cons (.call ("do_touch" : Str) m_do_touch (.cons (.str ("BA26" : Str)) (.cons (.str ("BA36" : Str)) .nil))) (.cons (.call ("shortened_reference" : Str) m_shortened_reference (.cons (.str ("BA2367" : Str)) (.cons (.int 1) .nil))) (.cons (.call ("squares_between" : Str) m_squares_between (.cons (.tup (.cons (.int 12345) (.cons (.int 6789) .nil))) (.cons (.tup (.cons (.int 13100) (.cons (.int 6900) .nil))) (.cons (.int 1) .nil)))) .nil)))))))
      (.cons (.set 17 false false (.bin .Add (.v 17) (.lst (.cons (.call ("bearing_word" : Str) m_bearing_word (.cons (.tup (.cons (.int 0) (.cons (.int 0) .nil))) (.cons (.tup (.cons (.int 10) (.cons (.int 5) .nil))) .nil))) (.cons (.call ("bearing_word" : Str) m_bearing_word (.cons (.tup (.cons (.int 0) (.cons (.int 0) .nil))) (.cons (.tup (.cons (.int 10) (.cons (.int 6) .nil))) .nil))) (.cons (.call ("common_reference" : Str) m_common_reference (.cons (.tup (.cons (.int 12345) (.cons (.int 6789) .nil))) (.cons (.tup (.cons (.int 12399) (.cons (.int 6701) .nil))) .nil))) (.cons (.call ("common_reference" : Str) m_common_reference (.cons (.tup (.cons (.int 9999) (.cons (.int 0) .nil))) (.cons (.tup (.cons (.int 10000) (.cons (.int 0) .nil))) .nil))) .nil)))))))
      (.cons (.ret (.call ("_law_same" : Str) (m_law_same 12) (.cons (.v 17) (.cons (.lst (.cons (.str ("BA234678" : Str)) (.cons (.tup (.cons (.int 12300) (.cons (.int 6700) (.cons (.int 100) .nil)))) (.cons (.bl true) (.cons (.str ("BA26" : Str)) (.cons (.lst (.cons (.str ("BA26" : Str)) (.cons (.str ("BA36" : Str)) .nil))) (.cons (.str ("e" : Str)) (.cons (.str ("ne" : Str)) (.cons (.str ("BA2367" : Str)) (.cons .non .nil)))))))))) .nil))))
      .nil)))))
theorem ok_draws (c : Facts K mg) (sem : ∀ ns : List Int, ns.length ≤ 63 → ∃ st : List Int, drawsR N_draws.length cell_draws b_draws1 b_draws2 b_draws3 ns = .ok (.ret (.list (st.map PyData.int)), ()) ∧ st.length ≤ sizeLine) :
    ∃ f fd, FnOk P w K mg base (L2.CX P w) 1 f fd [("script" : Str)] (spDr K) ∧ mg "_law_draws" = some (.ref f) ∧ PySem.W.keepIn K (.ref f) = true ∧ Binds K fd [("script" : Str)] [] :=
  draws_okB (N := N_draws) (p1 := b_draws1) (p2 := b_draws2) (p3 := b_draws3) (cell := cell_draws) (l1 := l1_draws) (li := li_draws) c.d_law_draws ⟨by kernel_rfl, by kernel_rfl, by kernel_rfl, by decide +kernel, by kernel_rfl, by decide +kernel, by decide +kernel⟩ c.fr (fun f fd F => FunD.bindsN F fun _ _ _ _ _ _ us hl => match us, hl with | [_], _ => by kernel_rfl) (by decide +kernel)
      (fun A hr a => ⟨⟨trivial, ⟨trivial, trivial⟩⟩,
      ⟨⟨⟨trivial, trivial⟩, trivial⟩, ⟨⟨⟨⟨⟨⟨trivial, trivial⟩, trivial⟩, trivial⟩, trivial⟩, trivial⟩, ⟨⟨⟨trivial, ⟨trivial, trivial⟩⟩, ⟨⟨⟨trivial, trivial⟩, trivial⟩, ⟨⟨⟨trivial, trivial⟩, trivial⟩, ⟨trivial, trivial⟩⟩⟩, trivial⟩, ⟨⟨trivial, ⟨⟨⟨trivial, trivial⟩, ⟨⟨⟨trivial, trivial⟩, trivial⟩, ⟨⟨trivial, trivial⟩, trivial⟩⟩, trivial⟩, trivial⟩⟩, trivial⟩⟩⟩⟩,
      ⟨⟨trivial, ⟨⟨⟨⟨⟨trivial, trivial⟩, trivial⟩, trivial⟩, trivial⟩, ⟨⟨trivial, trivial⟩, trivial⟩⟩⟩, ⟨trivial, trivial⟩⟩⟩) sem
theorem ok_law (c : Facts K mg) {f : Addr} {fd : FuncData} (F : FnD K "law" (defArgs (top 55)) (defBody (top 55)) (defScope (top 55)) f fd)
    (sd : ∀ ns : List Int, ns.length ≤ 63 → ∃ st : List Int, drawsR N_draws.length cell_draws b_draws1 b_draws2 b_draws3 ns = .ok (.ret (.list (st.map PyData.int)), ()) ∧ st.length ≤ sizeLine)
    (sem : ∀ st : List Int, ∃ st', runs b_law (List.replicate N_law.length none) st = .ok (.ret (.bool true), st')) : FnOk P w K mg base (L2.CX P w) 14 f fd [("script" : Str)] (spLaw K) :=
  law_okB (N := N_law) (body := b_law) (j := 13) F ⟨by kernel_rfl, by kernel_rfl, by kernel_rfl, by decide +kernel, by kernel_rfl, by decide +kernel, by decide +kernel⟩ c.fr (ok_draws c sd) (by decide) (by decide +kernel)
      (fun A hr a => ⟨⟨⟨trivial, ⟨trivial, ⟨trivial, ⟨trivial, ⟨trivial, trivial⟩⟩⟩⟩⟩, ⟨⟨trivial, ⟨trivial, ⟨trivial, ⟨trivial, ⟨trivial, trivial⟩⟩⟩⟩⟩, ⟨⟨trivial, ⟨trivial, ⟨trivial, ⟨trivial, ⟨trivial, trivial⟩⟩⟩⟩⟩, trivial⟩⟩⟩, ⟨⟨trivial, ⟨⟨⟨(ok_law_point c).s hr (by decide) 1 a, trivial⟩, ⟨⟨(ok_law_pick c).s hr (by decide) 1 a, ⟨⟨trivial, ⟨trivial, ⟨trivial, ⟨trivial, trivial⟩⟩⟩⟩, trivial⟩⟩, trivial⟩⟩, ⟨⟨⟨(ok_law_near c).s hr (by decide) 1 a, ⟨trivial, ⟨trivial, trivial⟩⟩⟩, ⟨⟨trivial, ⟨(ok_law_take c).s hr (by decide) 1 a, ⟨trivial, trivial⟩⟩⟩, ⟨⟨trivial, ⟨(ok_law_take c).s hr (by decide) 1 a, ⟨trivial, trivial⟩⟩⟩, trivial⟩⟩⟩, ⟨⟨⟨(ok_law_reference c).s hr (by decide), ⟨trivial, ⟨trivial, trivial⟩⟩⟩, ⟨⟨(ok_law_reference c).s hr (by decide), ⟨trivial, ⟨trivial, trivial⟩⟩⟩, trivial⟩⟩, ⟨⟨⟨(ok_law_square c).s hr (by decide), ⟨trivial, trivial⟩⟩, ⟨⟨(ok_law_square c).s hr (by decide), ⟨trivial, trivial⟩⟩, trivial⟩⟩, ⟨⟨⟨⟨trivial, ⟨trivial, trivial⟩⟩, ⟨⟨⟨trivial, trivial⟩, ⟨⟨trivial, trivial⟩, ⟨trivial, trivial⟩⟩⟩, ⟨⟨trivial, trivial⟩, ⟨⟨trivial, trivial⟩, ⟨trivial, trivial⟩⟩⟩⟩, trivial⟩, trivial⟩, ⟨⟨⟨trivial, trivial, trivial⟩, ⟨⟨(ok_law_reference c).s hr (by decide), ⟨trivial, ⟨trivial, trivial⟩⟩⟩, ⟨(ok_law_reference c).s hr (by decide), ⟨trivial, ⟨trivial, trivial⟩⟩⟩⟩, ⟨(ok_law_reference c).s hr (by decide), ⟨trivial, ⟨trivial, trivial⟩⟩⟩⟩, ⟨⟨⟨(ok_law_told c).s hr (by decide), ⟨trivial, ⟨⟨trivial, ⟨trivial, trivial⟩⟩, trivial⟩⟩⟩, ⟨⟨(ok_law_told c).s hr (by decide), ⟨trivial, ⟨⟨trivial, trivial⟩, trivial⟩⟩⟩, ⟨⟨(ok_law_told c).s hr (by decide), ⟨trivial, ⟨⟨trivial, ⟨trivial, trivial⟩⟩, trivial⟩⟩⟩, ⟨⟨(ok_law_told c).s hr (by decide), ⟨trivial, ⟨⟨trivial, ⟨trivial, trivial⟩⟩, trivial⟩⟩⟩, ⟨⟨(ok_law_told c).s hr (by decide), ⟨trivial, ⟨⟨trivial, ⟨trivial, trivial⟩⟩, trivial⟩⟩⟩, ⟨⟨(ok_law_told c).s hr (by decide), ⟨trivial, ⟨⟨trivial, ⟨trivial, trivial⟩⟩, trivial⟩⟩⟩, trivial⟩⟩⟩⟩⟩⟩, ⟨⟨⟨(ok_law_same c 12).s hr (by decide), ⟨trivial, ⟨⟨trivial, ⟨trivial, ⟨trivial, ⟨⟨⟨⟨trivial, trivial⟩, ⟨trivial, trivial⟩, ⟨⟨trivial, trivial⟩, ⟨trivial, trivial⟩⟩⟩, ⟨⟨trivial, trivial⟩, ⟨trivial, trivial⟩, ⟨⟨trivial, trivial⟩, ⟨trivial, trivial⟩⟩⟩⟩, ⟨trivial, ⟨⟨⟨trivial, ⟨trivial, trivial⟩⟩, trivial⟩, trivial⟩⟩⟩⟩⟩⟩, trivial⟩⟩⟩, ⟨trivial, trivial⟩, trivial⟩, ⟨⟨⟨⟨⟨trivial, trivial⟩, ⟨trivial, trivial⟩⟩, ⟨⟨trivial, trivial⟩, ⟨trivial, trivial⟩⟩⟩, ⟨⟨⟨trivial, trivial⟩, ⟨trivial, trivial⟩⟩, ⟨⟨trivial, trivial⟩, ⟨trivial, trivial⟩⟩⟩⟩, ⟨trivial, ⟨⟨⟨trivial, trivial⟩, ⟨⟨(ok_law_word c).s hr (by decide), ⟨trivial, ⟨trivial, trivial⟩⟩⟩, trivial⟩, trivial⟩, ⟨⟨⟨(ok_law_same c 12).s hr (by decide), ⟨⟨⟨(ok_law_told c).s hr (by decide), ⟨trivial, ⟨⟨trivial, ⟨trivial, trivial⟩⟩, trivial⟩⟩⟩, ⟨⟨(ok_law_told c).s hr (by decide), ⟨trivial, ⟨⟨trivial, ⟨trivial, trivial⟩⟩, trivial⟩⟩⟩, ⟨⟨(ok_is_point c).s hr (by decide), ⟨trivial, trivial⟩⟩, ⟨⟨(ok_is_reference c).s hr (by decide), ⟨trivial, trivial⟩⟩, trivial⟩⟩⟩⟩, ⟨⟨trivial, ⟨trivial, ⟨trivial, ⟨trivial, trivial⟩⟩⟩⟩, trivial⟩⟩⟩, ⟨trivial, trivial⟩, trivial⟩, ⟨trivial, ⟨⟨⟨trivial, trivial⟩, ⟨⟨(ok_law_reference c).s hr (by decide), ⟨trivial, ⟨trivial, trivial⟩⟩⟩, trivial⟩, trivial⟩, ⟨⟨⟨(ok_takes_square c).s hr (by decide), ⟨trivial, ⟨⟨trivial, trivial⟩, ⟨⟨trivial, trivial⟩, ⟨⟨trivial, trivial⟩, trivial⟩⟩⟩⟩⟩, ⟨⟨(ok_takes_square c).s hr (by decide), ⟨trivial, ⟨⟨⟨trivial, trivial⟩, trivial⟩, ⟨⟨trivial, trivial⟩, ⟨⟨trivial, trivial⟩, trivial⟩⟩⟩⟩⟩, ⟨⟨(ok_takes_square c).s hr (by decide), ⟨trivial, ⟨⟨trivial, trivial⟩, ⟨⟨trivial, trivial⟩, ⟨⟨trivial, ⟨trivial, trivial⟩⟩, trivial⟩⟩⟩⟩⟩, trivial⟩⟩⟩, ⟨⟨⟨(ok_law_same c 12).s hr (by decide), ⟨⟨⟨⟨(ok_law_told c).s hr (by decide), ⟨trivial, ⟨⟨trivial, ⟨trivial, trivial⟩⟩, trivial⟩⟩⟩, trivial⟩, trivial⟩, ⟨⟨trivial, ⟨trivial, ⟨trivial, ⟨trivial, trivial⟩⟩⟩⟩, trivial⟩⟩⟩, ⟨trivial, trivial⟩, trivial⟩, ⟨⟨⟨(ok_law_near c).s hr (by decide) 1 a, ⟨trivial, ⟨⟨(ok_law_pick c).s hr (by decide) 1 a, ⟨⟨trivial, ⟨trivial, ⟨trivial, trivial⟩⟩⟩, trivial⟩⟩, trivial⟩⟩⟩, ⟨⟨trivial, ⟨(ok_law_take c).s hr (by decide) 1 a, ⟨trivial, trivial⟩⟩⟩, trivial⟩⟩, ⟨⟨⟨trivial, ⟨trivial, ⟨trivial, ⟨trivial, trivial⟩⟩⟩⟩, ⟨trivial, trivial⟩⟩, ⟨⟨⟨⟨⟨⟨⟨trivial, trivial⟩, trivial⟩, ⟨⟨trivial, trivial⟩, trivial⟩⟩, trivial⟩, trivial⟩, ⟨⟨⟨⟨⟨trivial, trivial⟩, trivial⟩, ⟨⟨trivial, trivial⟩, trivial⟩⟩, trivial⟩, trivial⟩⟩, ⟨trivial, ⟨⟨⟨trivial, trivial⟩, ⟨⟨(ok_law_between c).s hr (by decide), ⟨trivial, ⟨trivial, ⟨trivial, trivial⟩⟩⟩⟩, trivial⟩, trivial⟩, ⟨⟨⟨(ok_law_same c 12).s hr (by decide), ⟨⟨(ok_law_told c).s hr (by decide), ⟨trivial, ⟨⟨trivial, ⟨trivial, ⟨trivial, trivial⟩⟩⟩, trivial⟩⟩⟩, ⟨trivial, trivial⟩⟩⟩, ⟨trivial, trivial⟩, trivial⟩, ⟨⟨⟨trivial, ⟨(ok_law_take c).s hr (by decide) 1 a, ⟨trivial, trivial⟩⟩⟩, trivial, ⟨(ok_law_near c).s hr (by decide) 1 a, ⟨trivial, ⟨trivial, trivial⟩⟩⟩⟩, ⟨⟨trivial, trivial, ⟨⟨⟨⟨trivial, trivial⟩, ⟨trivial, trivial⟩⟩, ⟨⟨trivial, trivial⟩, ⟨trivial, trivial⟩⟩⟩, ⟨⟨⟨trivial, trivial⟩, ⟨trivial, trivial⟩⟩, ⟨⟨trivial, trivial⟩, ⟨trivial, trivial⟩⟩⟩⟩⟩, ⟨⟨⟨⟨⟨trivial, trivial, ⟨trivial, trivial⟩⟩, trivial⟩, ⟨trivial, trivial⟩⟩, ⟨⟨⟨⟨trivial, trivial, ⟨trivial, trivial⟩⟩, trivial⟩, ⟨trivial, trivial⟩⟩, trivial⟩⟩, ⟨⟨⟨⟨(ok_law_take c).s hr (by decide) 1 a, ⟨trivial, trivial⟩⟩, trivial⟩, ⟨⟨⟨(ok_law_take c).s hr (by decide) 1 a, ⟨trivial, trivial⟩⟩, trivial⟩, trivial⟩⟩, ⟨⟨⟨⟨trivial, trivial⟩, trivial⟩, ⟨⟨⟨trivial, trivial⟩, trivial⟩, trivial⟩⟩, ⟨⟨⟨⟨⟨trivial, trivial⟩, trivial⟩, ⟨⟨trivial, trivial⟩, trivial⟩⟩, ⟨trivial, trivial⟩, trivial⟩, ⟨⟨⟨(ok_law_same c 12).s hr (by decide), ⟨⟨⟨(ok_law_told c).s hr (by decide), ⟨trivial, ⟨⟨trivial, ⟨⟨trivial, trivial⟩, trivial⟩⟩, trivial⟩⟩⟩, ⟨⟨(ok_law_told c).s hr (by decide), ⟨trivial, ⟨⟨⟨trivial, trivial⟩, trivial⟩, trivial⟩⟩⟩, ⟨⟨(ok_law_told c).s hr (by decide), ⟨trivial, ⟨⟨trivial, ⟨trivial, ⟨trivial, trivial⟩⟩⟩, trivial⟩⟩⟩, trivial⟩⟩⟩, ⟨⟨⟨trivial, ⟨trivial, trivial⟩⟩, ⟨trivial, ⟨trivial, trivial⟩⟩⟩, trivial⟩⟩⟩, ⟨trivial, trivial⟩, trivial⟩, ⟨⟨⟨(ok_law_pick c).s hr (by decide) 1 a, ⟨⟨trivial, ⟨trivial, ⟨trivial, ⟨trivial, ⟨trivial, ⟨trivial, ⟨trivial, ⟨trivial, ⟨trivial, trivial⟩⟩⟩⟩⟩⟩⟩⟩⟩, trivial⟩⟩, ⟨⟨(ok_law_pick c).s hr (by decide) 1 a, ⟨⟨trivial, ⟨⟨trivial, trivial⟩, ⟨⟨trivial, ⟨trivial, trivial⟩⟩, ⟨⟨trivial, ⟨trivial, trivial⟩⟩, ⟨⟨trivial, ⟨trivial, trivial⟩⟩, ⟨⟨trivial, ⟨trivial, trivial⟩⟩, trivial⟩⟩⟩⟩⟩⟩, trivial⟩⟩, trivial⟩⟩, ⟨⟨⟨(ok_law_pick c).s hr (by decide) 1 a, ⟨⟨trivial, ⟨trivial, ⟨trivial, ⟨trivial, trivial⟩⟩⟩⟩, trivial⟩⟩, ⟨⟨(ok_law_pick c).s hr (by decide) 1 a, ⟨⟨trivial, ⟨trivial, ⟨⟨trivial, trivial⟩, ⟨⟨trivial, trivial⟩, trivial⟩⟩⟩⟩, trivial⟩⟩, trivial⟩⟩, ⟨⟨⟨trivial, ⟨⟨trivial, trivial⟩, trivial⟩⟩, ⟨⟨trivial, ⟨⟨trivial, trivial⟩, trivial⟩⟩, ⟨⟨trivial, ⟨⟨trivial, ⟨trivial, trivial⟩⟩, trivial⟩⟩, ⟨⟨trivial, ⟨⟨trivial, ⟨trivial, trivial⟩⟩, trivial⟩⟩, ⟨⟨trivial, ⟨⟨trivial, ⟨trivial, trivial⟩⟩, trivial⟩⟩, ⟨⟨trivial, ⟨⟨trivial, ⟨trivial, trivial⟩⟩, trivial⟩⟩, ⟨⟨trivial, ⟨⟨trivial, ⟨trivial, trivial⟩⟩, trivial⟩⟩, trivial⟩⟩⟩⟩⟩⟩⟩, ⟨⟨trivial, ⟨⟨trivial, ⟨⟨trivial, ⟨trivial, trivial⟩⟩, trivial⟩⟩, ⟨⟨trivial, ⟨⟨trivial, ⟨trivial, trivial⟩⟩, trivial⟩⟩, ⟨⟨trivial, ⟨⟨trivial, ⟨trivial, trivial⟩⟩, trivial⟩⟩, ⟨⟨trivial, ⟨⟨trivial, ⟨trivial, trivial⟩⟩, trivial⟩⟩, ⟨⟨trivial, ⟨⟨trivial, ⟨trivial, trivial⟩⟩, trivial⟩⟩, ⟨⟨trivial, ⟨⟨trivial, ⟨trivial, trivial⟩⟩, trivial⟩⟩, ⟨⟨trivial, ⟨⟨trivial, ⟨trivial, trivial⟩⟩, trivial⟩⟩, trivial⟩⟩⟩⟩⟩⟩⟩⟩, ⟨⟨trivial, ⟨⟨trivial, ⟨⟨trivial, ⟨⟨trivial, trivial⟩, trivial⟩⟩, trivial⟩⟩, ⟨⟨trivial, ⟨⟨trivial, ⟨trivial, trivial⟩⟩, trivial⟩⟩, ⟨⟨trivial, ⟨⟨trivial, ⟨trivial, trivial⟩⟩, trivial⟩⟩, ⟨⟨trivial, ⟨⟨trivial, ⟨trivial, trivial⟩⟩, trivial⟩⟩, ⟨⟨trivial, ⟨⟨trivial, ⟨trivial, ⟨trivial, trivial⟩⟩⟩, trivial⟩⟩, trivial⟩⟩⟩⟩⟩⟩, ⟨⟨trivial, ⟨⟨trivial, ⟨⟨trivial, ⟨trivial, ⟨trivial, trivial⟩⟩⟩, trivial⟩⟩, ⟨⟨trivial, ⟨⟨trivial, ⟨trivial, ⟨trivial, trivial⟩⟩⟩, trivial⟩⟩, ⟨⟨trivial, ⟨⟨trivial, ⟨trivial, ⟨trivial, trivial⟩⟩⟩, trivial⟩⟩, ⟨⟨trivial, ⟨⟨trivial, ⟨trivial, ⟨trivial, trivial⟩⟩⟩, trivial⟩⟩, ⟨⟨trivial, ⟨⟨trivial, ⟨trivial, ⟨trivial, trivial⟩⟩⟩, trivial⟩⟩, trivial⟩⟩⟩⟩⟩⟩, ⟨⟨⟨(ok_law_same c 12).s hr (by decide), ⟨⟨⟨trivial, trivial, ⟨(ok_law_told c).s hr (by decide), ⟨trivial, ⟨trivial, trivial⟩⟩⟩⟩, ⟨⟨(ok_is_reference c).s hr (by decide), ⟨trivial, trivial⟩⟩, ⟨⟨(ok_is_point c).s hr (by decide), ⟨trivial, trivial⟩⟩, trivial⟩⟩⟩, ⟨⟨⟨⟨trivial, trivial⟩, trivial⟩, ⟨trivial, ⟨trivial, trivial⟩⟩⟩, trivial⟩⟩⟩, ⟨trivial, trivial⟩, trivial⟩, trivial⟩⟩⟩⟩⟩⟩⟩⟩⟩⟩⟩⟩⟩⟩⟩⟩⟩⟩⟩⟩⟩⟩⟩⟩⟩⟩⟩⟩⟩⟩⟩⟩⟩⟩⟩⟩⟩, ⟨⟨⟨(ok_reference_of c).s hr (by decide), ⟨⟨trivial, ⟨trivial, trivial⟩⟩, ⟨trivial, trivial⟩⟩⟩, ⟨⟨(ok_square_of c).s hr (by decide), ⟨trivial, trivial⟩⟩, ⟨⟨(ok_do_touch c).s hr (by decide), ⟨trivial, ⟨trivial, trivial⟩⟩⟩, ⟨⟨(ok_shortened_reference c).s hr (by decide), ⟨trivial, ⟨trivial, trivial⟩⟩⟩, ⟨⟨(ok_squares_between c).s hr (by decide), ⟨⟨trivial, ⟨trivial, trivial⟩⟩, ⟨⟨trivial, ⟨trivial, trivial⟩⟩, ⟨trivial, trivial⟩⟩⟩⟩, trivial⟩⟩⟩⟩⟩, ⟨⟨trivial, ⟨⟨(ok_bearing_word c).s hr (by decide), ⟨⟨trivial, ⟨trivial, trivial⟩⟩, ⟨⟨trivial, ⟨trivial, trivial⟩⟩, trivial⟩⟩⟩, ⟨⟨(ok_bearing_word c).s hr (by decide), ⟨⟨trivial, ⟨trivial, trivial⟩⟩, ⟨⟨trivial, ⟨trivial, trivial⟩⟩, trivial⟩⟩⟩, ⟨⟨(ok_common_reference c).s hr (by decide), ⟨⟨trivial, ⟨trivial, trivial⟩⟩, ⟨⟨trivial, ⟨trivial, trivial⟩⟩, trivial⟩⟩⟩, ⟨⟨(ok_common_reference c).s hr (by decide), ⟨⟨trivial, ⟨trivial, trivial⟩⟩, ⟨⟨trivial, ⟨trivial, trivial⟩⟩, trivial⟩⟩⟩, trivial⟩⟩⟩⟩⟩, ⟨⟨(ok_law_same c 12).s hr (by decide), ⟨trivial, ⟨⟨trivial, ⟨⟨trivial, ⟨trivial, ⟨trivial, trivial⟩⟩⟩, ⟨trivial, ⟨trivial, ⟨⟨trivial, ⟨trivial, trivial⟩⟩, ⟨trivial, ⟨trivial, ⟨trivial, ⟨trivial, trivial⟩⟩⟩⟩⟩⟩⟩⟩⟩, trivial⟩⟩⟩, trivial⟩⟩⟩⟩⟩) sem
end
end K13

set_option Elab.async false
set_option linter.all false
set_option maxRecDepth 100000
set_option maxHeartbeats 0
namespace K13
open PySem PySem.Spec PyProof.Rows L2 Mir
def fa : List He.Fa := [.free "len", .free "tuple", .free "list", .free "sorted", .free "all", .free "any", .free "int", .free "sum", .free "min", .free "max", .free "abs", .free "str", .free "isinstance", .free "bool", .free "dict", .free "range", .free "zip", .free "enumerate", .free "reversed", .free "set", .free "repr", .free "divmod", .glo "_law_draws", .glo "_law_same", .glo "check", .glo "is_integer", .glo "is_within", .glo "check_figures", .glo "figures_of", .glo "reference_by", .glo "is_point", .glo "reference_of", .glo "side_of", .glo "square_by", .glo "is_reference", .glo "square_of", .glo "do_touch", .glo "shortened_reference", .glo "squares_between", .glo "_law_take", .glo "_law_pick", .glo "_law_point", .glo "_law_near", .glo "_law_reference", .glo "_law_square", .glo "_law_flags", .glo "moved_point", .glo "are_points", .glo "middle_point", .glo "holds_point", .glo "squared", .glo "distance_squared", .glo "bearing_word", .glo "nearest_point", .glo "common_reference", .glo "_law_told", .glo "_law_word", .glo "takes_square", .glo "_law_between", .glo "law", .glo "NoAnswer", .exc "NoAnswer", .glo "NotRight", .exc "NotRight", .glo "TooLarge", .exc "TooLarge", .glo "SIDES", .str "FIGURES" "0123456789", .int "LAST" 239999, .str "LETTERS_checkmarks" "ABCDEFGHJKLMNPQRSTUVWXYZ", .str "LETTERS_squares" "ABCDEFGHJKLMNPQRSTUVWXYZ", .int "MOST_FIGURES" 4, .int "MOST_SQUARES" 400, .int "SHEET" 10000, .glo "SignError", .glo "NotThere", .glo "Malformed"]
def fn : List He.DefD := [⟨("_law_draws", none), "_law_draws", "_law_draws", defArgs (top 43), defBody (top 43), defScope (top 43), [], []⟩,
  ⟨("_law_same", none), "_law_same", "_law_same", defArgs (top 46), defBody (top 46), defScope (top 46), [], []⟩,
  ⟨("check", none), "check", "check", defArgs (top 9), defBody (top 9), defScope (top 9), [], []⟩,
  ⟨("is_integer", none), "is_integer", "is_integer", defArgs (top 7), defBody (top 7), defScope (top 7), [], []⟩,
  ⟨("is_within", none), "is_within", "is_within", defArgs (top 8), defBody (top 8), defScope (top 8), [], []⟩,
  ⟨("check_figures", none), "check_figures", "check_figures", defArgs (top 19), defBody (top 19), defScope (top 19), [], []⟩,
  ⟨("figures_of", none), "figures_of", "figures_of", defArgs (top 21), defBody (top 21), defScope (top 21), [], []⟩,
  ⟨("reference_by", none), "reference_by", "reference_by", defArgs (top 22), defBody (top 22), defScope (top 22), [], []⟩,
  ⟨("is_point", none), "is_point", "is_point", defArgs (top 18), defBody (top 18), defScope (top 18), [], []⟩,
  ⟨("reference_of", none), "reference_of", "reference_of", defArgs (top 23), defBody (top 23), defScope (top 23), [], []⟩,
  ⟨("side_of", none), "side_of", "side_of", defArgs (top 20), defBody (top 20), defScope (top 20), [], []⟩,
  ⟨("square_by", none), "square_by", "square_by", defArgs (top 24), defBody (top 24), defScope (top 24), [], []⟩,
  ⟨("is_reference", none), "is_reference", "is_reference", defArgs (top 17), defBody (top 17), defScope (top 17), [], []⟩,
  ⟨("square_of", none), "square_of", "square_of", defArgs (top 25), defBody (top 25), defScope (top 25), [], []⟩,
  ⟨("do_touch", none), "do_touch", "do_touch", defArgs (top 27), defBody (top 27), defScope (top 27), [], []⟩,
  ⟨("shortened_reference", none), "shortened_reference", "shortened_reference", defArgs (top 28), defBody (top 28), defScope (top 28), [], []⟩,
  ⟨("squares_between", none), "squares_between", "squares_between", defArgs (top 29), defBody (top 29), defScope (top 29), [], []⟩,
  ⟨("_law_take", none), "_law_take", "_law_take", defArgs (top 44), defBody (top 44), defScope (top 44), [], []⟩,
  ⟨("_law_pick", none), "_law_pick", "_law_pick", defArgs (top 45), defBody (top 45), defScope (top 45), [], []⟩,
  ⟨("_law_point", none), "_law_point", "_law_point", defArgs (top 50), defBody (top 50), defScope (top 50), [], []⟩,
  ⟨("_law_near", none), "_law_near", "_law_near", defArgs (top 51), defBody (top 51), defScope (top 51), [], []⟩,
  ⟨("_law_reference", none), "_law_reference", "_law_reference", defArgs (top 49), defBody (top 49), defScope (top 49), [], []⟩,
  ⟨("_law_square", none), "_law_square", "_law_square", defArgs (top 48), defBody (top 48), defScope (top 48), [], []⟩,
  ⟨("_law_flags", none), "_law_flags", "_law_flags", defArgs (top 47), defBody (top 47), defScope (top 47), [], []⟩,
  ⟨("moved_point", none), "moved_point", "moved_point", defArgs (top 36), defBody (top 36), defScope (top 36), [], []⟩,
  ⟨("are_points", none), "are_points", "are_points", defArgs (top 33), defBody (top 33), defScope (top 33), [], []⟩,
  ⟨("middle_point", none), "middle_point", "middle_point", defArgs (top 35), defBody (top 35), defScope (top 35), [], []⟩,
  ⟨("holds_point", none), "holds_point", "holds_point", defArgs (top 26), defBody (top 26), defScope (top 26), [], []⟩,
  ⟨("squared", none), "squared", "squared", defArgs (top 30), defBody (top 30), defScope (top 30), [], []⟩,
  ⟨("distance_squared", none), "distance_squared", "distance_squared", defArgs (top 31), defBody (top 31), defScope (top 31), [], []⟩,
  ⟨("bearing_word", none), "bearing_word", "bearing_word", defArgs (top 32), defBody (top 32), defScope (top 32), [], []⟩,
  ⟨("nearest_point", none), "nearest_point", "nearest_point", defArgs (top 34), defBody (top 34), defScope (top 34), [], []⟩,
  ⟨("common_reference", none), "common_reference", "common_reference", defArgs (top 37), defBody (top 37), defScope (top 37), [], []⟩,
  ⟨("_law_told", none), "_law_told", "_law_told", defArgs (top 52), defBody (top 52), defScope (top 52), [], []⟩,
  ⟨("_law_word", none), "_law_word", "_law_word", defArgs (top 53), defBody (top 53), defScope (top 53), [], []⟩,
  ⟨("takes_square", none), "takes_square", "takes_square", defArgs (top 41), defBody (top 41), defScope (top 41), [], []⟩,
  ⟨("_law_between", none), "_law_between", "_law_between", defArgs (top 54), defBody (top 54), defScope (top 54), [], []⟩,
  ⟨("law", none), "law", "law", defArgs (top 55), defBody (top 55), defScope (top 55), [], []⟩]
def ex (K : PySem.W.Frag) : Bool := gdB K "SIDES" [(1, 1000), (2, 100), (3, 10), (4, 1)] && (xtB K ("SignError" : Str) [("NotRight" : Str), ("NotThere" : Str), ("NoAnswer" : Str), ("TooLarge" : Str), ("Malformed" : Str)] tab_x)
theorem facts {K : PySem.W.Frag} {h : Heap} {mg : Str → Option Value} (X : K.In h) (G : h.Ns mainGlobals mg) (c : He.SaysD fa fn K) (he : ex K = true) : Facts K mg where
  fr := fun x hx => by
    simp only [bltNames, List.mem_cons, List.not_mem_nil, or_false] at hx
    rcases hx with rfl | rfl | rfl | rfl | rfl | rfl | rfl | rfl | rfl | rfl | rfl | rfl | rfl | rfl | rfl | rfl | rfl | rfl | rfl | rfl | rfl | rfl
    · exact He.free_ok X G (c.fact 0 (f := .free "len") rfl)
    · exact He.free_ok X G (c.fact 1 (f := .free "tuple") rfl)
    · exact He.free_ok X G (c.fact 2 (f := .free "list") rfl)
    · exact He.free_ok X G (c.fact 3 (f := .free "sorted") rfl)
    · exact He.free_ok X G (c.fact 4 (f := .free "all") rfl)
    · exact He.free_ok X G (c.fact 5 (f := .free "any") rfl)
    · exact He.free_ok X G (c.fact 6 (f := .free "int") rfl)
    · exact He.free_ok X G (c.fact 7 (f := .free "sum") rfl)
    · exact He.free_ok X G (c.fact 8 (f := .free "min") rfl)
    · exact He.free_ok X G (c.fact 9 (f := .free "max") rfl)
    · exact He.free_ok X G (c.fact 10 (f := .free "abs") rfl)
    · exact He.free_ok X G (c.fact 11 (f := .free "str") rfl)
    · exact He.free_ok X G (c.fact 12 (f := .free "isinstance") rfl)
    · exact He.free_ok X G (c.fact 13 (f := .free "bool") rfl)
    · exact He.free_ok X G (c.fact 14 (f := .free "dict") rfl)
    · exact He.free_ok X G (c.fact 15 (f := .free "range") rfl)
    · exact He.free_ok X G (c.fact 16 (f := .free "zip") rfl)
    · exact He.free_ok X G (c.fact 17 (f := .free "enumerate") rfl)
    · exact He.free_ok X G (c.fact 18 (f := .free "reversed") rfl)
    · exact He.free_ok X G (c.fact 19 (f := .free "set") rfl)
    · exact He.free_ok X G (c.fact 20 (f := .free "repr") rfl)
    · exact He.free_ok X G (c.fact 21 (f := .free "divmod") rfl)
  d_law_draws := by
    obtain ⟨fd, F⟩ := c.def_ 0 rfl
    exact ⟨_, fd, F, He.glo_ok X G (c.fact 22 (f := .glo "_law_draws") rfl)⟩
  d_law_same := by
    obtain ⟨fd, F⟩ := c.def_ 1 rfl
    exact ⟨_, fd, F, He.glo_ok X G (c.fact 23 (f := .glo "_law_same") rfl)⟩
  d_check := by
    obtain ⟨fd, F⟩ := c.def_ 2 rfl
    exact ⟨_, fd, F, He.glo_ok X G (c.fact 24 (f := .glo "check") rfl)⟩
  d_is_integer := by
    obtain ⟨fd, F⟩ := c.def_ 3 rfl
    exact ⟨_, fd, F, He.glo_ok X G (c.fact 25 (f := .glo "is_integer") rfl)⟩
  d_is_within := by
    obtain ⟨fd, F⟩ := c.def_ 4 rfl
    exact ⟨_, fd, F, He.glo_ok X G (c.fact 26 (f := .glo "is_within") rfl)⟩
  d_check_figures := by
    obtain ⟨fd, F⟩ := c.def_ 5 rfl
    exact ⟨_, fd, F, He.glo_ok X G (c.fact 27 (f := .glo "check_figures") rfl)⟩
  d_figures_of := by
    obtain ⟨fd, F⟩ := c.def_ 6 rfl
    exact ⟨_, fd, F, He.glo_ok X G (c.fact 28 (f := .glo "figures_of") rfl)⟩
  d_reference_by := by
    obtain ⟨fd, F⟩ := c.def_ 7 rfl
    exact ⟨_, fd, F, He.glo_ok X G (c.fact 29 (f := .glo "reference_by") rfl)⟩
  d_is_point := by
    obtain ⟨fd, F⟩ := c.def_ 8 rfl
    exact ⟨_, fd, F, He.glo_ok X G (c.fact 30 (f := .glo "is_point") rfl)⟩
  d_reference_of := by
    obtain ⟨fd, F⟩ := c.def_ 9 rfl
    exact ⟨_, fd, F, He.glo_ok X G (c.fact 31 (f := .glo "reference_of") rfl)⟩
  d_side_of := by
    obtain ⟨fd, F⟩ := c.def_ 10 rfl
    exact ⟨_, fd, F, He.glo_ok X G (c.fact 32 (f := .glo "side_of") rfl)⟩
  d_square_by := by
    obtain ⟨fd, F⟩ := c.def_ 11 rfl
    exact ⟨_, fd, F, He.glo_ok X G (c.fact 33 (f := .glo "square_by") rfl)⟩
  d_is_reference := by
    obtain ⟨fd, F⟩ := c.def_ 12 rfl
    exact ⟨_, fd, F, He.glo_ok X G (c.fact 34 (f := .glo "is_reference") rfl)⟩
  d_square_of := by
    obtain ⟨fd, F⟩ := c.def_ 13 rfl
    exact ⟨_, fd, F, He.glo_ok X G (c.fact 35 (f := .glo "square_of") rfl)⟩
  d_do_touch := by
    obtain ⟨fd, F⟩ := c.def_ 14 rfl
    exact ⟨_, fd, F, He.glo_ok X G (c.fact 36 (f := .glo "do_touch") rfl)⟩
  d_shortened_reference := by
    obtain ⟨fd, F⟩ := c.def_ 15 rfl
    exact ⟨_, fd, F, He.glo_ok X G (c.fact 37 (f := .glo "shortened_reference") rfl)⟩
  d_squares_between := by
    obtain ⟨fd, F⟩ := c.def_ 16 rfl
    exact ⟨_, fd, F, He.glo_ok X G (c.fact 38 (f := .glo "squares_between") rfl)⟩
  d_law_take := by
    obtain ⟨fd, F⟩ := c.def_ 17 rfl
    exact ⟨_, fd, F, He.glo_ok X G (c.fact 39 (f := .glo "_law_take") rfl)⟩
  d_law_pick := by
    obtain ⟨fd, F⟩ := c.def_ 18 rfl
    exact ⟨_, fd, F, He.glo_ok X G (c.fact 40 (f := .glo "_law_pick") rfl)⟩
  d_law_point := by
    obtain ⟨fd, F⟩ := c.def_ 19 rfl
    exact ⟨_, fd, F, He.glo_ok X G (c.fact 41 (f := .glo "_law_point") rfl)⟩
  d_law_near := by
    obtain ⟨fd, F⟩ := c.def_ 20 rfl
    exact ⟨_, fd, F, He.glo_ok X G (c.fact 42 (f := .glo "_law_near") rfl)⟩
  d_law_reference := by
    obtain ⟨fd, F⟩ := c.def_ 21 rfl
    exact ⟨_, fd, F, He.glo_ok X G (c.fact 43 (f := .glo "_law_reference") rfl)⟩
  d_law_square := by
    obtain ⟨fd, F⟩ := c.def_ 22 rfl
    exact ⟨_, fd, F, He.glo_ok X G (c.fact 44 (f := .glo "_law_square") rfl)⟩
  d_law_flags := by
    obtain ⟨fd, F⟩ := c.def_ 23 rfl
    exact ⟨_, fd, F, He.glo_ok X G (c.fact 45 (f := .glo "_law_flags") rfl)⟩
  d_moved_point := by
    obtain ⟨fd, F⟩ := c.def_ 24 rfl
    exact ⟨_, fd, F, He.glo_ok X G (c.fact 46 (f := .glo "moved_point") rfl)⟩
  d_are_points := by
    obtain ⟨fd, F⟩ := c.def_ 25 rfl
    exact ⟨_, fd, F, He.glo_ok X G (c.fact 47 (f := .glo "are_points") rfl)⟩
  d_middle_point := by
    obtain ⟨fd, F⟩ := c.def_ 26 rfl
    exact ⟨_, fd, F, He.glo_ok X G (c.fact 48 (f := .glo "middle_point") rfl)⟩
  d_holds_point := by
    obtain ⟨fd, F⟩ := c.def_ 27 rfl
    exact ⟨_, fd, F, He.glo_ok X G (c.fact 49 (f := .glo "holds_point") rfl)⟩
  d_squared := by
    obtain ⟨fd, F⟩ := c.def_ 28 rfl
    exact ⟨_, fd, F, He.glo_ok X G (c.fact 50 (f := .glo "squared") rfl)⟩
  d_distance_squared := by
    obtain ⟨fd, F⟩ := c.def_ 29 rfl
    exact ⟨_, fd, F, He.glo_ok X G (c.fact 51 (f := .glo "distance_squared") rfl)⟩
  d_bearing_word := by
    obtain ⟨fd, F⟩ := c.def_ 30 rfl
    exact ⟨_, fd, F, He.glo_ok X G (c.fact 52 (f := .glo "bearing_word") rfl)⟩
  d_nearest_point := by
    obtain ⟨fd, F⟩ := c.def_ 31 rfl
    exact ⟨_, fd, F, He.glo_ok X G (c.fact 53 (f := .glo "nearest_point") rfl)⟩
  d_common_reference := by
    obtain ⟨fd, F⟩ := c.def_ 32 rfl
    exact ⟨_, fd, F, He.glo_ok X G (c.fact 54 (f := .glo "common_reference") rfl)⟩
  d_law_told := by
    obtain ⟨fd, F⟩ := c.def_ 33 rfl
    exact ⟨_, fd, F, He.glo_ok X G (c.fact 55 (f := .glo "_law_told") rfl)⟩
  d_law_word := by
    obtain ⟨fd, F⟩ := c.def_ 34 rfl
    exact ⟨_, fd, F, He.glo_ok X G (c.fact 56 (f := .glo "_law_word") rfl)⟩
  d_takes_square := by
    obtain ⟨fd, F⟩ := c.def_ 35 rfl
    exact ⟨_, fd, F, He.glo_ok X G (c.fact 57 (f := .glo "takes_square") rfl)⟩
  d_law_between := by
    obtain ⟨fd, F⟩ := c.def_ 36 rfl
    exact ⟨_, fd, F, He.glo_ok X G (c.fact 58 (f := .glo "_law_between") rfl)⟩
  d_law := by
    obtain ⟨fd, F⟩ := c.def_ 37 rfl
    exact ⟨_, fd, F, He.glo_ok X G (c.fact 59 (f := .glo "law") rfl)⟩
  g_FIGURES := gl_str X G (by decide +kernel) (c.fact 67 rfl)
  g_LAST := gl_int X G (c.fact 68 rfl)
  g_LETTERS_checkmarks := gl_str X G (by decide +kernel) (c.fact 69 rfl)
  g_LETTERS_squares := gl_str X G (by decide +kernel) (c.fact 70 rfl)
  g_MOST_FIGURES := gl_int X G (c.fact 71 rfl)
  g_MOST_SQUARES := gl_int X G (c.fact 72 rfl)
  g_SHEET := gl_int X G (c.fact 73 rfl)
  gd_SIDES := gd_of X G (c.fact 66 (f := .glo "SIDES") rfl) (Bool.and_eq_true_iff.mp he).1
  x_NoAnswer := rk_of X G (c.fact 60 (f := .glo "NoAnswer") rfl) (c.fact 61 (f := .exc "NoAnswer") rfl)
  x_NotRight := rk_of X G (c.fact 62 (f := .glo "NotRight") rfl) (c.fact 63 (f := .exc "NotRight") rfl)
  x_TooLarge := rk_of X G (c.fact 64 (f := .glo "TooLarge") rfl) (c.fact 65 (f := .exc "TooLarge") rfl)
  xt := xtab_of (fun x hx => by
    simp only [tab_x, List.map_cons, List.map_nil, List.cons_append, List.nil_append, List.mem_cons, List.not_mem_nil, or_false] at hx
    rcases hx with rfl | rfl | rfl | rfl | rfl | rfl | rfl | rfl | rfl | rfl | rfl
    · exact He.glo_ok X G (c.fact 74 (f := .glo "SignError") rfl)
    · exact He.glo_ok X G (c.fact 62 (f := .glo "NotRight") rfl)
    · exact He.glo_ok X G (c.fact 75 (f := .glo "NotThere") rfl)
    · exact He.glo_ok X G (c.fact 60 (f := .glo "NoAnswer") rfl)
    · exact He.glo_ok X G (c.fact 64 (f := .glo "TooLarge") rfl)
    · exact He.glo_ok X G (c.fact 76 (f := .glo "Malformed") rfl)
    · exact He.glo_ok X G (c.fact 62 (f := .glo "NotRight") rfl)
    · exact He.glo_ok X G (c.fact 75 (f := .glo "NotThere") rfl)
    · exact He.glo_ok X G (c.fact 60 (f := .glo "NoAnswer") rfl)
    · exact He.glo_ok X G (c.fact 64 (f := .glo "TooLarge") rfl)
    · exact He.glo_ok X G (c.fact 76 (f := .glo "Malformed") rfl)) (Bool.and_eq_true_iff.mp he).2
end K13

set_option Elab.async false
set_option linter.all false
set_option maxRecDepth 100000
set_option maxHeartbeats 0
namespace K13
open PySem PySem.Spec PyProof.Rows L2 Mir
abbrev Rw : PySem.W.OpenRow := PySem.W.OpenLaw.row PySem.Challenge.rw_signward_k13_whole_squares_of_the_map
abbrev hk : PySem.W.Hook := hookM 4 fa fn ex
def ob (s : PySem.W.SharedT) : AlM := obsM 4 fa fn ex (HandSHeadRun.getT s)
theorem ob_eq (s : PySem.W.SharedT) : ob s = hk.obs s.abs := obsM_eq (HandSHeadRun.getT_eq s)
def loose : List Str := (["SignError", "NotRight", "NotThere", "NoAnswer", "TooLarge", "Malformed", "is_integer", "is_within", "check", "LETTERS_squares", "SHEET", "LAST", "MOST_FIGURES", "SIDES", "MOST_SQUARES", "is_reference", "is_point", "check_figures", "side_of", "figures_of"] : List Str) ++ (["reference_by", "reference_of", "square_by", "square_of", "holds_point", "do_touch", "shortened_reference", "squares_between", "squared", "distance_squared", "bearing_word", "are_points", "nearest_point", "middle_point", "moved_point", "common_reference", "LETTERS_checkmarks", "FIGURES", "takes_square", "_law_draws"] : List Str) ++ (["_law_take", "_law_pick", "_law_same", "_law_flags", "_law_square", "_law_reference", "_law_point", "_law_near", "_law_told", "_law_word", "_law_between"] : List Str)
def qv : Program := PySem.W.view Rw.prog [55]
theorem headRun (w : World) : HandSHeadRun.RunEq Rw qv hk ob 3000 loose w :=
  PySem.W.byRow2 "special-get-raises" (P := fun w => HandSHeadRun.RunEq Rw qv hk ob 3000 loose w) (fun w os => by kernel_rfl) (fun w os => by kernel_rfl) w
end K13

set_option Elab.async false
set_option linter.all false
set_option maxRecDepth 100000
set_option maxHeartbeats 1000000

namespace K13
open PySem Mir
def LET : List Nat := [65, 66, 67, 68, 69, 70, 71, 72, 74, 75, 76, 77, 78, 80, 81, 82, 83, 84, 85, 86, 87, 88, 89, 90]
theorem LET_eq : (("ABCDEFGHJKLMNPQRSTUVWXYZ" : Str)) = ⟨LET.toArray⟩ := by decide +kernel
/-- a letter's sign -/
def lt (k : Int) : Nat := LET.getD k.toNat 0
theorem k_let : (List.range 24).all (fun k => (match subD (.str ("ABCDEFGHJKLMNPQRSTUVWXYZ" : Str)) (.int (k : Nat)) with
    | .ok (.str x) => decide (x = ⟨#[LET.getD k 0]⟩)
    | _ => false) && (match cmpD .In (.str ⟨#[LET.getD k 0]⟩) (.str ("ABCDEFGHJKLMNPQRSTUVWXYZ" : Str)) with
    | .ok (.bool b) => b
    | _ => false) && (match op2D .sindex (.str ("ABCDEFGHJKLMNPQRSTUVWXYZ" : Str)) (.str ⟨#[LET.getD k 0]⟩) with
    | .ok (.int i) => decide (i = (k : Nat))
    | _ => false)) = true := by decide +kernel
theorem let_sub {S : Type} {k : Int} {Q : PyData → Prop} (h0 : 0 ≤ k) (h1 : k < 24) (h : Q (.str ⟨#[lt k]⟩)) : Sat (lft (S := S) (subD (.str ("ABCDEFGHJKLMNPQRSTUVWXYZ" : Str)) (.int k))) Q := by
  have g := List.all_eq_true.mp k_let k.toNat (List.mem_range.mpr (by omega))
  simp only [Bool.and_eq_true] at g
  obtain ⟨⟨g, _⟩, _⟩ := g
  rw [Int.toNat_of_nonneg h0] at g
  refine sat_lft (a := .str ⟨#[lt k]⟩) ?_ h
  split at g
  · rename_i x e
    rw [e, of_decide_eq_true g]; rfl
  · cases g
theorem let_in {S : Type} {k : Int} {Q : PyData → Prop} (h0 : 0 ≤ k) (h1 : k < 24) (h : Q (.bool true)) : Sat (lft (S := S) (cmpD .In (.str ⟨#[lt k]⟩) (.str ("ABCDEFGHJKLMNPQRSTUVWXYZ" : Str)))) Q := by
  have g := List.all_eq_true.mp k_let k.toNat (List.mem_range.mpr (by omega))
  simp only [Bool.and_eq_true] at g
  obtain ⟨⟨_, g⟩, _⟩ := g
  refine sat_lft (a := .bool true) ?_ h
  split at g
  · rename_i x e
    unfold lt
    rw [e, g]
  · cases g
theorem let_ix {S : Type} {k : Int} {Q : PyData → Prop} (h0 : 0 ≤ k) (h1 : k < 24) (h : Q (.int k)) : Sat (lft (S := S) (op2D .sindex (.str ("ABCDEFGHJKLMNPQRSTUVWXYZ" : Str)) (.str ⟨#[lt k]⟩))) Q := by
  have g := List.all_eq_true.mp k_let k.toNat (List.mem_range.mpr (by omega))
  simp only [Bool.and_eq_true] at g
  obtain ⟨_, g⟩ := g
  refine sat_lft (a := .int k) ?_ h
  split at g
  · rename_i x e
    unfold lt
    rw [e, of_decide_eq_true g, Int.toNat_of_nonneg h0]
  · cases g
theorem k_dig : (List.range 10).all (fun k => match cmpD .In (.str ⟨#[48 + k]⟩) (.str ("0123456789" : Str)) with
    | .ok (.bool b) => b
    | _ => false) = true := by decide +kernel
theorem dig_in {S : Type} {c : Nat} {Q : PyData → Prop} (h0 : 48 ≤ c ∧ c ≤ 57) (h : Q (.bool true)) : Sat (lft (S := S) (cmpD .In (.str ⟨#[c]⟩) (.str ("0123456789" : Str)))) Q := by
  have g := List.all_eq_true.mp k_dig (c - 48) (List.mem_range.mpr (by omega))
  rw [show 48 + (c - 48) = c by omega] at g
  refine sat_lft (a := .bool true) ?_ h
  split at g
  · rename_i x e
    rw [e, g]
  · cases g
/-! the program's functions -/
theorem check_ok : m_check [.bool true] = .ok .none := by
  refine defP_ok ?_
  unfold b_check
  show Sat (runs _ [some (.bool true)]) _
  clean_wf
  rfl
theorem is_integer_int (i : Int) : m_is_integer [.int i] = .ok (.bool true) := by
  refine defP_ok ?_
  unfold b_is_integer
  show Sat (runs _ [some (.int i)]) _
  clean_wf
  rfl
theorem is_within_int {i a b : Int} (h : a ≤ i ∧ i ≤ b) : m_is_within [.int i, .int a, .int b] = .ok (.bool true) := by
  refine defP_ok ?_
  unfold b_is_within
  show Sat (runs _ [some (.int i), some (.int a), some (.int b)]) _
  clean_wf
  refine sat_call_ok (is_integer_int i) ?_
  clean_wf
  rw [decide_eq_true h.2]
theorem check_figures_ok {h : Int} (g : 1 ≤ h ∧ h ≤ 4) : m_check_figures [.int h] = .ok .none := by
  refine defP_ok ?_
  unfold b_check_figures
  show Sat (runs _ [some (.int h)]) _
  clean_wf
  refine sat_call_ok (is_within_int g) ?_
  clean_wf
  refine sat_call_ok check_ok ?_
  clean_wf
  rfl
/-- a square's side -/
def sd (h : Int) : Int := if h = 1 then 1000 else if h = 2 then 100 else if h = 3 then 10 else 1
theorem side_of_ok {h : Int} (g : 1 ≤ h ∧ h ≤ 4) : m_side_of [.int h] = .ok (.int (sd h)) := by
  have : h = 1 ∨ h = 2 ∨ h = 3 ∨ h = 4 := by omega
  rcases this with rfl | rfl | rfl | rfl <;> rfl
theorem figures_of_ok {m h : Int} (hm : 0 ≤ m ∧ m < 10000) (g : 1 ≤ h ∧ h ≤ 4) : m_figures_of [.int m, .int h] = .ok (.str ⟨(dgs h.toNat (m / sd h).toNat).toArray⟩) := by
  refine defP_ok ?_
  unfold b_figures_of
  show Sat (runs _ [some (.int m), some (.int h)]) _
  clean_wf
  obtain ⟨k, rfl⟩ := Int.eq_ofNat_of_zero_le hm.1
  rw [show (10000 : Int) + (k : Int) = ((10000 + k : Nat) : Int) by omega]
  refine sat_strI (by omega) (str_dgs 4 (by omega) (by omega)) ?_
  clean_wf
  refine sat_cutS (by omega) (by omega) (by rw [dgs_len]; omega) ?_
  clean_wf
  have e : dgs 5 (10000 + k) = 49 :: dgs 4 k := by
    simp only [dgs, List.nil_append, List.cons_append, List.cons.injEq, and_true]
    omega
  have e2 : ((dgs 5 (10000 + k)).drop (Int.toNat 1)).take ((1 + h).toNat - Int.toNat 1) = (dgs 4 k).take h.toNat := by
    rw [e, show (1 + h).toNat - Int.toNat 1 = h.toNat by omega]
    rfl
  show PyData.str _ = PyData.str _
  rw [e2]
  have : h = 1 ∨ h = 2 ∨ h = 3 ∨ h = 4 := by omega
  rcases this with rfl | rfl | rfl | rfl
  · exact congrArg (fun l : List Nat => PyData.str ⟨l.toArray⟩) (dgs_take 3 1 k)
  · exact congrArg (fun l : List Nat => PyData.str ⟨l.toArray⟩) (dgs_take 2 2 k)
  · exact congrArg (fun l : List Nat => PyData.str ⟨l.toArray⟩) (dgs_take 1 3 k)
  · exact congrArg (fun l : List Nat => PyData.str ⟨l.toArray⟩) (dgs_take 0 4 k)
/-- a reference's signs -/
def refL (e n h : Int) : List Nat := lt (e / 10000) :: lt (n / 10000) :: (dgs h.toNat (e % 10000 / sd h).toNat ++ dgs h.toNat (n % 10000 / sd h).toNat)
def ref (e n h : Int) : Str := ⟨(refL e n h).toArray⟩
/-- a place of the map -/
def Pl (e n : Int) : Prop := (0 ≤ e ∧ e < 240000) ∧ 0 ≤ n ∧ n < 240000
abbrev pt (e n : Int) : PyData := .tuple [.int e, .int n]
theorem refL_len (e n h : Int) : (refL e n h).length = 2 + h.toNat + h.toNat := by
  unfold refL
  simp only [List.length_cons, List.length_append, dgs_len]
  omega
theorem reference_by_ok {e n h : Int} (p : Pl e n) (g : 1 ≤ h ∧ h ≤ 4) : m_reference_by [pt e n, .int h] = .ok (.str (ref e n h)) := by
  refine defP_ok ?_
  unfold b_reference_by
  show Sat (runs _ [some (pt e n), some (.int h), none, none, none]) _
  obtain ⟨p1, p2⟩ := p
  clean_wf
  refine let_sub (by omega) (by omega) ?_
  clean_wf
  refine let_sub (by omega) (by omega) ?_
  clean_wf
  refine sat_addSL (by simp) ?_
  clean_wf
  refine sat_call_ok (figures_of_ok (by omega) g) ?_
  clean_wf
  refine sat_addSL (by simp only [List.length_append, List.length_cons, List.length_nil, dgs_len]; omega) ?_
  clean_wf
  refine sat_call_ok (figures_of_ok (by omega) g) ?_
  clean_wf
  refine sat_addSL (by simp only [List.length_append, List.length_cons, List.length_nil, dgs_len]; omega) ?_
  clean_wf
  unfold ref refL
  rw [List.append_assoc]
  rfl
end K13

set_option Elab.async false
set_option linter.all false
set_option maxRecDepth 100000
set_option maxHeartbeats 1000000

namespace K13
open PySem Mir
theorem is_point_ok {e n : Int} (p : Pl e n) : m_is_point [pt e n] = .ok (.bool true) := by
  refine defP_ok ?_
  unfold b_is_point
  show Sat (runs _ [some (pt e n), none]) _
  obtain ⟨p1, p2⟩ := p
  clean_wf
  refine sat_lc (fun _ => some (.bool true)) ?_
  clean_wf
  refine ⟨fun x hx => ?_, ?_⟩
  · have : ∃ i : Int, x = .int i ∧ 0 ≤ i ∧ i ≤ 239999 := by
      rcases List.mem_cons.mp hx with rfl | hx
      · exact ⟨_, rfl, by omega⟩
      · rcases List.mem_singleton.mp hx with rfl
        exact ⟨_, rfl, by omega⟩
    obtain ⟨i, rfl, hi⟩ := this
    clean_wf
    refine sat_call_ok (is_within_int hi) ?_
    clean_wf
    rfl
  · clean_wf
    rfl
theorem reference_of_ok {e n h : Int} (p : Pl e n) (g : 1 ≤ h ∧ h ≤ 4) : m_reference_of [pt e n, .int h] = .ok (.str (ref e n h)) := by
  refine defP_ok ?_
  unfold b_reference_of
  show Sat (runs _ [some (pt e n), some (.int h)]) _
  clean_wf
  refine sat_call_ok (is_point_ok p) ?_
  clean_wf
  refine sat_call_ok check_ok ?_
  clean_wf
  refine sat_call_ok (check_figures_ok g) ?_
  clean_wf
  refine sat_call_ok (reference_by_ok p g) ?_
  clean_wf
  rfl
theorem is_reference_ok {e n h : Int} (p : Pl e n) (g : 1 ≤ h ∧ h ≤ 4) : m_is_reference [.str (ref e n h)] = .ok (.bool true) := by
  refine defP_ok ?_
  unfold b_is_reference
  show Sat (runs _ [some (.str (ref e n h)), none]) _
  obtain ⟨p1, p2⟩ := p
  unfold ref
  clean_wf
  have el : (((⟨(refL e n h).toArray⟩ : Str).length : Nat) : Int) = 2 + h + h := by rw [strL_len, refL_len]; omega
  rw [el]
  have : cmpD .NotIn (.int (2 + h + h)) (.tuple [.int 4, .int 6, .int 8, .int 10]) = .ok (.bool false) := by
    have : h = 1 ∨ h = 2 ∨ h = 3 ∨ h = 4 := by omega
    rcases this with rfl | rfl | rfl | rfl <;> rfl
  refine sat_lft this ?_
  clean_wf
  refine sat_atS (by omega) rfl ?_
  clean_wf
  refine let_in (by omega) (by omega) ?_
  clean_wf
  refine sat_atS (by omega) rfl ?_
  clean_wf
  refine let_in (by omega) (by omega) ?_
  clean_wf
  refine sat_lc (fun _ => some (.bool true)) ?_
  clean_wf
  refine sat_cutSl (by omega) (by rw [refL_len]; omega) ?_
  clean_wf
  refine sat_signS ?_
  refine ⟨fun x hx => ?_, ?_⟩
  · obtain ⟨c, hc, rfl⟩ := List.mem_map.mp hx
    have hc' : 48 ≤ c ∧ c ≤ 57 := by
      have : (refL e n h).drop (Int.toNat 2) = dgs h.toNat (e % 10000 / sd h).toNat ++ dgs h.toNat (n % 10000 / sd h).toNat := rfl
      rw [this] at hc
      rcases List.mem_append.mp hc with hc | hc <;> exact dgs_all _ _ _ hc
    clean_wf
    refine dig_in hc' ?_
    clean_wf
    rfl
  · clean_wf
    rfl
theorem sd_cases {h : Int} (g : 1 ≤ h ∧ h ≤ 4) : (h = 1 ∧ sd h = 1000) ∨ (h = 2 ∧ sd h = 100) ∨ (h = 3 ∧ sd h = 10) ∨ (h = 4 ∧ sd h = 1) := by
  have : h = 1 ∨ h = 2 ∨ h = 3 ∨ h = 4 := by omega
  rcases this with rfl | rfl | rfl | rfl <;> decide
theorem fig_lt {m h : Int} (hm : 0 ≤ m ∧ m < 10000) (g : 1 ≤ h ∧ h ≤ 4) : (m / sd h).toNat < 10 ^ h.toNat := by
  rcases sd_cases g with ⟨rfl, e⟩ | ⟨rfl, e⟩ | ⟨rfl, e⟩ | ⟨rfl, e⟩ <;> rw [e]
  · show _ < 10; omega
  · show _ < 100; omega
  · show _ < 1000; omega
  · show _ < 10000; omega
theorem sd_up {e h : Int} (g : 1 ≤ h ∧ h ≤ 4) (h0 : 0 ≤ e) : e / 10000 * 10000 + ((e % 10000 / sd h).toNat : Int) * sd h = e / sd h * sd h := by
  rcases sd_cases g with ⟨rfl, e'⟩ | ⟨rfl, e'⟩ | ⟨rfl, e'⟩ | ⟨rfl, e'⟩ <;> rw [e'] <;> omega
theorem sd_b {h : Int} (g : 1 ≤ h ∧ h ≤ 4) : 1 ≤ sd h ∧ sd h ≤ 1000 := by
  rcases sd_cases g with ⟨rfl, e'⟩ | ⟨rfl, e'⟩ | ⟨rfl, e'⟩ | ⟨rfl, e'⟩ <;> rw [e'] <;> omega
/-- the corner and the side -/
abbrev sq (e n h : Int) : PyData := .tuple [.int (e / sd h * sd h), .int (n / sd h * sd h), .int (sd h)]
theorem square_by_ok {e n h : Int} (p : Pl e n) (g : 1 ≤ h ∧ h ≤ 4) : m_square_by [.str (ref e n h)] = .ok (sq e n h) := by
  refine defP_ok ?_
  unfold b_square_by
  show Sat (runs _ [some (.str (ref e n h)), none, none, none]) _
  obtain ⟨p1, p2⟩ := p
  have hb := sd_b g
  unfold ref
  clean_wf
  have el : ((((⟨(refL e n h).toArray⟩ : Str).length : Nat) : Int) - 2) / 2 = h := by rw [strL_len, refL_len]; omega
  rw [el]
  refine sat_call_ok (side_of_ok g) ?_
  clean_wf
  refine sat_atS (l := refL e n h) (i := 0) (by omega) rfl ?_
  clean_wf
  refine let_ix (by omega) (by omega) ?_
  clean_wf
  refine sat_cutS (by omega) (by omega) (by rw [refL_len]; omega) ?_
  have e1 : ((refL e n h).drop (Int.toNat 2)).take ((2 + h).toNat - Int.toNat 2) = dgs h.toNat (e % 10000 / sd h).toNat := by
    show (dgs h.toNat (e % 10000 / sd h).toNat ++ dgs h.toNat (n % 10000 / sd h).toNat).take ((2 + h).toNat - 2) = _
    rw [show (2 + h).toNat - 2 = h.toNat by omega, List.take_append_of_le_length (by rw [dgs_len]; omega), List.take_of_length_le (by rw [dgs_len]; omega)]
  rw [e1]
  have hne : ∀ x, dgs h.toNat x ≠ [] := fun x q => by
    have := congrArg List.length q
    rw [dgs_len] at this
    simp at this
    omega
  clean_wf
  refine sat_intF (dgs_all _ _) (hne _) (by rw [dgs_len]; omega) (dgs_val _ _ (fig_lt (by omega) g)) ?_
  clean_wf
  refine sat_atS (l := refL e n h) (i := 1) (by omega) rfl ?_
  clean_wf
  refine let_ix (by omega) (by omega) ?_
  clean_wf
  refine sat_cutSl (by omega) (by rw [refL_len]; omega) ?_
  have e2 : (refL e n h).drop (2 + h).toNat = dgs h.toNat (n % 10000 / sd h).toNat := by
    rw [show (2 + h).toNat = h.toNat + 2 by omega]
    show (dgs h.toNat (e % 10000 / sd h).toNat ++ dgs h.toNat (n % 10000 / sd h).toNat).drop h.toNat = _
    rw [List.drop_append_of_le_length (by rw [dgs_len]; omega), List.drop_of_length_le (by rw [dgs_len]; omega)]
    rfl
  rw [e2]
  clean_wf
  refine sat_intF (dgs_all _ _) (hne _) (by rw [dgs_len]; omega) (dgs_val _ _ (fig_lt (by omega) g)) ?_
  clean_wf
  rw [sd_up g (by omega), sd_up g (by omega)]
theorem square_of_ok {e n h : Int} (p : Pl e n) (g : 1 ≤ h ∧ h ≤ 4) : m_square_of [.str (ref e n h)] = .ok (sq e n h) := by
  refine defP_ok ?_
  unfold b_square_of
  show Sat (runs _ [some (.str (ref e n h))]) _
  clean_wf
  refine sat_call_ok (is_reference_ok p g) ?_
  clean_wf
  refine sat_call_ok check_ok ?_
  clean_wf
  refine sat_call_ok (square_by_ok p g) ?_
  clean_wf
  rfl
/-- a square holds a point -/
def Hd (e n h x y : Int) : Prop := (e / sd h * sd h ≤ x ∧ x < e / sd h * sd h + sd h) ∧ n / sd h * sd h ≤ y ∧ y < n / sd h * sd h + sd h
instance (e n h x y : Int) : Decidable (Hd e n h x y) := by unfold Hd; infer_instance
theorem holds_point_ok {e n h x y : Int} (p : Pl e n) (g : 1 ≤ h ∧ h ≤ 4) (q : Pl x y) : m_holds_point [.str (ref e n h), pt x y] = .ok (.bool (decide (Hd e n h x y))) := by
  refine defP_ok ?_
  unfold b_holds_point
  show Sat (runs _ [some (.str (ref e n h)), some (pt x y), none, none, none]) _
  clean_wf
  refine sat_call_ok (is_reference_ok p g) ?_
  clean_wf
  refine sat_call_ok (is_point_ok q) ?_
  clean_wf
  refine sat_call_ok check_ok ?_
  clean_wf
  refine sat_call_ok (square_by_ok p g) ?_
  clean_wf
  refine if_dec (fun h1 => ?_) (fun h1 => ?_)
  · clean_wf
    refine if_dec (fun h2 => ?_) (fun h2 => ?_)
    · clean_wf
      refine if_dec (fun h3 => ?_) (fun h3 => ?_)
      · clean_wf
        exact congrArg PyData.bool (decide_eq_decide.mpr ⟨fun h4 => ⟨⟨h1, h2⟩, h3, h4⟩, fun h => h.2.2⟩)
      · clean_wf
        exact congrArg PyData.bool (decide_eq_decide.mpr ⟨fun h4 => absurd h4 h3, fun h => h.2.1⟩)
    · clean_wf
      exact congrArg PyData.bool (decide_eq_decide.mpr ⟨fun h4 => absurd h4 h2, fun h => h.1.2⟩)
  · clean_wf
    exact congrArg PyData.bool (decide_eq_decide.mpr ⟨fun h4 => absurd h4 h1, fun h => h.1.1⟩)
/-- two squares touch -/
def Tch (e n h x y k : Int) : Prop := e / sd h * sd h ≤ x / sd k * sd k + sd k ∧ x / sd k * sd k ≤ e / sd h * sd h + sd h ∧ n / sd h * sd h ≤ y / sd k * sd k + sd k ∧ y / sd k * sd k ≤ n / sd h * sd h + sd h
instance (e n h x y k : Int) : Decidable (Tch e n h x y k) := by unfold Tch; infer_instance
theorem do_touch_ok {e n h x y k : Int} (p : Pl e n) (g : 1 ≤ h ∧ h ≤ 4) (q : Pl x y) (gk : 1 ≤ k ∧ k ≤ 4) : m_do_touch [.str (ref e n h), .str (ref x y k)] = .ok (.bool (decide (Tch e n h x y k))) := by
  refine defP_ok ?_
  unfold b_do_touch
  show Sat (runs _ [some (.str (ref e n h)), some (.str (ref x y k)), none, none, none, none, none, none]) _
  clean_wf
  refine sat_call_ok (is_reference_ok p g) ?_
  clean_wf
  refine sat_call_ok (is_reference_ok q gk) ?_
  clean_wf
  refine sat_call_ok check_ok ?_
  clean_wf
  refine sat_call_ok (square_by_ok p g) ?_
  clean_wf
  refine sat_call_ok (square_by_ok q gk) ?_
  clean_wf
  refine if_dec (fun h1 => ?_) (fun h1 => ?_)
  · clean_wf
    refine if_dec (fun h2 => ?_) (fun h2 => ?_)
    · clean_wf
      refine if_dec (fun h3 => ?_) (fun h3 => ?_)
      · clean_wf
        exact congrArg PyData.bool (decide_eq_decide.mpr ⟨fun h4 => ⟨h1, h2, h3, h4⟩, fun h => h.2.2.2⟩)
      · clean_wf
        exact congrArg PyData.bool (decide_eq_decide.mpr ⟨fun h4 => absurd h4 h3, fun h => h.2.2.1⟩)
    · clean_wf
      exact congrArg PyData.bool (decide_eq_decide.mpr ⟨fun h4 => absurd h4 h2, fun h => h.2.1⟩)
  · clean_wf
    exact congrArg PyData.bool (decide_eq_decide.mpr ⟨fun h4 => absurd h4 h1, fun h => h.1⟩)
/-- fewer figures -/
theorem sd_fewer {h k : Int} (g : 1 ≤ h ∧ h ≤ 4) (gk : 1 ≤ k ∧ k ≤ h) {m : Int} (hm : 0 ≤ m ∧ m < 10000) : (dgs h.toNat (m / sd h).toNat).take k.toNat = dgs k.toNat (m / sd k).toNat := by
  have e : h.toNat = k.toNat + (h.toNat - k.toNat) := by omega
  have e2 : (dgs h.toNat (m / sd h).toNat).take k.toNat = dgs k.toNat ((m / sd h).toNat / 10 ^ (h.toNat - k.toNat)) := by
    conv => lhs; rw [e]
    exact dgs_take _ _ _
  rw [e2]
  congr 1
  rcases sd_cases g with ⟨rfl, e'⟩ | ⟨rfl, e'⟩ | ⟨rfl, e'⟩ | ⟨rfl, e'⟩ <;> rw [e'] <;> rcases sd_cases (h := k) (by omega) with ⟨rfl, e''⟩ | ⟨rfl, e''⟩ | ⟨rfl, e''⟩ | ⟨rfl, e''⟩ <;> rw [e''] <;> first | omega | (simp only [Int.reduceToNat, Nat.reduceSub, Nat.reducePow]; omega)
theorem shortened_ok {e n h k : Int} (p : Pl e n) (g : 1 ≤ h ∧ h ≤ 4) (gk : 1 ≤ k ∧ k ≤ h) : m_shortened_reference [.str (ref e n h), .int k] = .ok (.str (ref e n k)) := by
  refine defP_ok ?_
  unfold b_shortened_reference
  show Sat (runs _ [some (.str (ref e n h)), some (.int k), none]) _
  clean_wf
  refine sat_call_ok (is_reference_ok p g) ?_
  clean_wf
  refine sat_call_ok check_ok ?_
  obtain ⟨p1, p2⟩ := p
  clean_wf
  have el : ((((ref e n h).length : Nat) : Int) - 2) / 2 = h := by unfold ref; rw [strL_len, refL_len]; omega
  rw [el]
  refine sat_call_ok (is_within_int gk) ?_
  clean_wf
  refine sat_call_ok check_ok ?_
  clean_wf
  unfold ref
  refine sat_cutSh (by omega) (by rw [refL_len]; omega) ?_
  clean_wf
  refine sat_cutS (by omega) (by omega) (by rw [refL_len]; omega) ?_
  clean_wf
  have e1 : (refL e n h).take (2 + k).toNat = lt (e / 10000) :: lt (n / 10000) :: dgs k.toNat (e % 10000 / sd k).toNat := by
    rw [show (2 + k).toNat = k.toNat + 2 by omega]
    show lt (e / 10000) :: lt (n / 10000) :: (dgs h.toNat (e % 10000 / sd h).toNat ++ dgs h.toNat (n % 10000 / sd h).toNat).take k.toNat = _
    rw [List.take_append_of_le_length (by rw [dgs_len]; omega), sd_fewer g gk (by omega)]
  have e2 : ((refL e n h).drop (2 + h).toNat).take ((2 + h + k).toNat - (2 + h).toNat) = dgs k.toNat (n % 10000 / sd k).toNat := by
    rw [show (2 + h).toNat = h.toNat + 2 by omega, show (2 + h + k).toNat - (h.toNat + 2) = k.toNat by omega]
    show ((dgs h.toNat (e % 10000 / sd h).toNat ++ dgs h.toNat (n % 10000 / sd h).toNat).drop h.toNat).take k.toNat = _
    rw [List.drop_append_of_le_length (by rw [dgs_len]; omega), List.drop_of_length_le (by rw [dgs_len]; omega), List.nil_append, sd_fewer g gk (by omega)]
  rw [e1, e2]
  refine sat_addSL (by simp only [List.length_append, List.length_cons, List.length_nil, dgs_len]; omega) ?_
  clean_wf
  rfl
end K13

set_option Elab.async false
set_option linter.all false
set_option maxRecDepth 100000
set_option maxHeartbeats 1000000

namespace K13
open PySem Mir
/-- the power of ten behind k figures -/
def pw (k : Nat) : Int := if k = 0 then 10000 else sd k
theorem pw_step {k : Nat} (hk : k < 4) (a : Int) (ha : 0 ≤ a ∧ a < 10000) : (0 ≤ a % pw k / (pw k / 10) ∧ a % pw k / (pw k / 10) < 10) ∧ 0 < pw k ∧ 0 < pw k / 10 ∧ pw k / 10 < 1073741824 ∧ pw (k + 1) = pw k / 10 ∧ a % pw k % (pw k / 10) = a % pw (k + 1) ∧ (a / pw (k + 1)).toNat / 10 = (a / pw k).toNat ∧ (a / pw (k + 1)).toNat % 10 = (a % pw k / (pw k / 10)).toNat := by
  have : k = 0 ∨ k = 1 ∨ k = 2 ∨ k = 3 := by omega
  rcases this with rfl | rfl | rfl | rfl
  · rw [show pw 0 = 10000 from rfl, show pw (0 + 1) = 1000 from rfl]; omega
  · rw [show pw 1 = 1000 from rfl, show pw (1 + 1) = 100 from rfl]; omega
  · rw [show pw 2 = 100 from rfl, show pw (2 + 1) = 10 from rfl]; omega
  · rw [show pw 3 = 10 from rfl, show pw (3 + 1) = 1 from rfl]; omega
theorem lref_ok {e n h : Int} (p : Pl e n) (g : 1 ≤ h ∧ h ≤ 4) : m_law_reference [pt e n, .int h] = .ok (.str (ref e n h)) := by
  refine defP_ok ?_
  unfold b_law_reference
  show Sat (runs _ [some (pt e n), some (.int h), none, none, none, none, none, none, none]) _
  obtain ⟨⟨p1, p2⟩, p3, p4⟩ := p
  clean_wf
  have nil : ("" : Str) = ⟨([] : List Nat).toArray⟩ := by decide +kernel
  rw [nil]
  have ha : 0 ≤ e % 10000 ∧ e % 10000 < 10000 := by omega
  have hb : 0 ≤ n % 10000 ∧ n % 10000 < 10000 := by omega
  generalize ea : e % 10000 = a at ha ⊢
  generalize eb : n % 10000 = b at hb ⊢
  have ha0 : a % 10000 = a := by omega
  have hb0 : b % 10000 = b := by omega
  refine sat_for (fun _ k ρ => ∃ o : Option PyData, ρ = [some (pt e n), some (.int h), some (.str ("ABCDEFGHJKLMNPQRSTUVWXYZ" : Str)), some (.str ⟨(dgs k (a / pw k).toNat).toArray⟩), some (.str ⟨(dgs k (b / pw k).toNat).toArray⟩), some (.int (pw k)), some (.int (a % pw k)), some (.int (b % pw k)), o]) ?_
  clean_wf
  refine ⟨by show h ≤ 2 ^ 24; omega, by omega, ⟨none, ?_⟩, ?_, ?_⟩
  · show _ = [some (pt e n), some (.int h), some (.str _), some (.str ⟨[].toArray⟩), some (.str ⟨[].toArray⟩), some (.int 10000), some (.int (a % 10000)), some (.int (b % 10000)), none]
    rw [ha0, hb0]
    rfl
  · intro k hk ρ ⟨o, hr⟩
    rw [rangeD_get hk]
    rw [rangeD_len] at hk
    subst hr
    obtain ⟨s1, s2, s3, s4, s5, s6, s7, s8⟩ := pw_step (k := k) (by omega) a ha
    obtain ⟨t1, t2, t3, t4, t5, t6, t7, t8⟩ := pw_step (k := k) (by omega) b hb
    clean_wf
    refine sat_strF s1 ?_
    clean_wf
    refine sat_addSL (by simp only [List.length_append, List.length_cons, List.length_nil, dgs_len]; omega) ?_
    clean_wf
    refine sat_strF t1 ?_
    clean_wf
    refine sat_addSL (by simp only [List.length_append, List.length_cons, List.length_nil, dgs_len]; omega) ?_
    clean_wf
    refine ⟨some (.int (0 + (k : Int))), ?_⟩
    show _ = [some (pt e n), some (.int h), some (.str _), some (.str ⟨(dgs k ((a / pw (k + 1)).toNat / 10) ++ [48 + (a / pw (k + 1)).toNat % 10]).toArray⟩), some (.str ⟨(dgs k ((b / pw (k + 1)).toNat / 10) ++ [48 + (b / pw (k + 1)).toNat % 10]).toArray⟩), some (.int (pw (k + 1))), some (.int (a % pw (k + 1))), some (.int (b % pw (k + 1))), _]
    rw [s7, s8, t7, t8, ← s6, ← t6, s5]
    rfl
  · intro ρ ⟨o, hr⟩
    rw [rangeD_len] at hr
    have hp : pw h.toNat = sd h := by
      unfold pw
      rw [if_neg (by omega), Int.toNat_of_nonneg (by omega)]
    rw [hp] at hr
    subst hr
    clean_wf
    refine let_sub (by omega) (by omega) ?_
    clean_wf
    refine let_sub (by omega) (by omega) ?_
    clean_wf
    refine sat_addSL (by simp) ?_
    clean_wf
    refine sat_addSL (by simp only [List.length_append, List.length_cons, List.length_nil, dgs_len]; omega) ?_
    clean_wf
    refine sat_addSL (by simp only [List.length_append, List.length_cons, List.length_nil, dgs_len]; omega) ?_
    clean_wf
    unfold ref refL
    rw [List.append_assoc, ea, eb]
    rfl
theorem squared_ok {a b c d : Int} (p : Pl a b) (q : Pl c d) : m_squared [pt a b, pt c d] = .ok (.int ((a - c) * (a - c) + (b - d) * (b - d))) := by
  refine defP_ok ?_
  unfold b_squared
  show Sat (runs _ [some (pt a b), some (pt c d)]) _
  obtain ⟨⟨p1, p2⟩, p3, p4⟩ := p
  obtain ⟨⟨q1, q2⟩, q3, q4⟩ := q
  clean_wf
  rfl
theorem distance_ok {a b c d : Int} (p : Pl a b) (q : Pl c d) : m_distance_squared [pt a b, pt c d] = .ok (.int ((a - c) * (a - c) + (b - d) * (b - d))) := by
  refine defP_ok ?_
  unfold b_distance_squared
  show Sat (runs _ [some (pt a b), some (pt c d)]) _
  clean_wf
  refine sat_call_ok (is_point_ok p) ?_
  clean_wf
  refine sat_call_ok (is_point_ok q) ?_
  clean_wf
  refine sat_call_ok check_ok ?_
  clean_wf
  refine sat_call_ok (squared_ok p q) ?_
  clean_wf
  rfl
/-! the law's helpers -/
theorem pick_ok {l : List PyData} {Q : PyData → Prop} (h0 : l ≠ []) (h : ∀ d ∈ l, Q d) : Sat (m_law_pick [.list l]) Q := by
  refine defD_sat ?_
  unfold b_law_pick
  show Sat (runs _ [none, some (.list l)]) _
  have hl : 0 < l.length := List.length_pos_iff.mpr h0
  clean_wf
  refine sat_take (by omega) fun v h1 h2 => ?_
  obtain ⟨k, rfl⟩ := Int.eq_ofNat_of_zero_le h1
  have hk : k < l.length := by omega
  refine sat_atL (i := (k : Int)) (d := l[k]) (by omega) (by rw [Int.toNat_natCast]; exact List.getElem?_eq_getElem hk) ?_
  clean_wf
  exact h _ (List.getElem_mem hk)
theorem point_ok {Q : PyData → Prop} (h : ∀ e n, Pl e n → Q (pt e n)) : Sat (m_law_point []) Q := by
  refine defD_sat ?_
  unfold b_law_point
  show Sat (runs _ [none, none]) _
  clean_wf
  refine sat_take (by omega) fun v h1 h2 => ?_
  clean_wf
  refine sat_take (by omega) fun u h3 h4 => ?_
  clean_wf
  refine pick_ok (by simp) fun d hd => ?_
  have : ∃ w : Int, d = .int w ∧ 0 ≤ w ∧ w ≤ 9999 := by
    simp only [List.mem_cons, List.not_mem_nil, or_false] at hd
    rcases hd with rfl | rfl <;> exact ⟨_, rfl, by omega⟩
  obtain ⟨w, rfl, h5, h6⟩ := this
  clean_wf
  refine pick_ok (by simp) fun d hd => ?_
  have : ∃ e : Int, d = .int e ∧ 0 ≤ e ∧ e < 240000 := by
    simp only [List.mem_cons, List.not_mem_nil, or_false] at hd
    rcases hd with rfl | rfl | rfl | rfl <;> exact ⟨_, rfl, by omega⟩
  obtain ⟨e, rfl, he⟩ := this
  clean_wf
  refine sat_take (by omega) fun v2 h1 h2 => ?_
  clean_wf
  refine sat_take (by omega) fun u2 h3 h4 => ?_
  clean_wf
  refine pick_ok (by simp) fun d hd => ?_
  have : ∃ e : Int, d = .int e ∧ 0 ≤ e ∧ e < 240000 := by
    simp only [List.mem_cons, List.not_mem_nil, or_false] at hd
    rcases hd with rfl | rfl | rfl <;> exact ⟨_, rfl, by omega⟩
  obtain ⟨n, rfl, hn⟩ := this
  clean_wf
  exact h e n ⟨he, hn⟩
theorem near_ok {a b f : Int} {Q : PyData → Prop} (p : Pl a b) (hf : 0 ≤ f ∧ f ≤ 100000) (h : ∀ e n, Pl e n → Q (pt e n)) : Sat (m_law_near [pt a b, .int f]) Q := by
  refine defD_sat ?_
  unfold b_law_near
  show Sat (runs _ [none, some (pt a b), some (.int f), none, none]) _
  obtain ⟨⟨p1, p2⟩, p3, p4⟩ := p
  clean_wf
  refine sat_forU ?_
  clean_wf
  refine fg_cons ?_
  clean_wf
  refine sat_take (by omega) fun v h1 h2 => ?_
  clean_wf
  refine fg_cons ?_
  clean_wf
  refine sat_take (by omega) fun u h3 h4 => ?_
  clean_wf
  refine h _ _ ⟨?_, ?_⟩
  · omega
  · omega
/-! the same -/
theorem same_int (n : Nat) (i : Int) : m_law_same (n + 1) [.int i, .int i] = .ok (.bool true) := by
  refine defP_ok ?_
  unfold b_law_same
  show Sat (runs _ [some (.int i), some (.int i), none, none]) _
  clean_wf
  rw [decide_eq_true rfl]
theorem same_str (n : Nat) (i : Str) : m_law_same (n + 1) [.str i, .str i] = .ok (.bool true) := by
  refine defP_ok ?_
  unfold b_law_same
  show Sat (runs _ [some (.str i), some (.str i), none, none]) _
  clean_wf
  rw [decide_eq_true rfl]
theorem same_bool (n : Nat) (i : Bool) : m_law_same (n + 1) [.bool i, .bool i] = .ok (.bool true) := by
  refine defP_ok ?_
  unfold b_law_same
  show Sat (runs _ [some (.bool i), some (.bool i), none, none]) _
  clean_wf
  rw [decide_eq_true rfl]
theorem same_list (n : Nat) (xs : List PyData) (hl : xs.length ≤ 2 ^ 24) (h : ∀ x ∈ xs, m_law_same n [x, x] = .ok (.bool true)) : m_law_same (n + 1) [.list xs, .list xs] = .ok (.bool true) := by
  refine defP_ok ?_
  unfold b_law_same
  show Sat (runs _ [some (.list xs), some (.list xs), none, none]) _
  clean_wf
  refine sat_for (fun _ k ρ => ∃ o : Option PyData, ρ = [some (.list xs), some (.list xs), o, none]) ?_
  clean_wf
  refine ⟨by show (xs.length : Int) ≤ 2 ^ 24; omega, by omega, ⟨_, rfl⟩, ?_, ?_⟩
  · intro k hk ρ ⟨o, hr⟩
    rw [rangeD_get hk]
    rw [rangeD_len, Int.toNat_natCast] at hk
    subst hr
    clean_wf
    refine sat_atL (d := xs[k]) (by omega) (by rw [show (0 + (k : Int)).toNat = k by omega]; exact List.getElem?_eq_getElem hk) ?_
    clean_wf
    refine sat_atL (d := xs[k]) (by omega) (by rw [show (0 + (k : Int)).toNat = k by omega]; exact List.getElem?_eq_getElem hk) ?_
    clean_wf
    refine sat_call_ok (h _ (List.getElem_mem hk)) ?_
    clean_wf
    exact ⟨_, rfl⟩
  · intro ρ ⟨o, hr⟩
    subst hr
    clean_wf
    rfl
theorem same_tuple (n : Nat) (xs : List PyData) (hl : xs.length ≤ 2 ^ 24) (h : ∀ x ∈ xs, m_law_same n [x, x] = .ok (.bool true)) : m_law_same (n + 1) [.tuple xs, .tuple xs] = .ok (.bool true) := by
  refine defP_ok ?_
  unfold b_law_same
  show Sat (runs _ [some (.tuple xs), some (.tuple xs), none, none]) _
  clean_wf
  refine sat_for (fun _ k ρ => ∃ o : Option PyData, ρ = [some (.tuple xs), some (.tuple xs), o, none]) ?_
  clean_wf
  refine ⟨by show (xs.length : Int) ≤ 2 ^ 24; omega, by omega, ⟨_, rfl⟩, ?_, ?_⟩
  · intro k hk ρ ⟨o, hr⟩
    rw [rangeD_get hk]
    rw [rangeD_len, Int.toNat_natCast] at hk
    subst hr
    clean_wf
    refine sat_atT (d := xs[k]) (by omega) (by rw [show (0 + (k : Int)).toNat = k by omega]; exact List.getElem?_eq_getElem hk) ?_
    clean_wf
    refine sat_atT (d := xs[k]) (by omega) (by rw [show (0 + (k : Int)).toNat = k by omega]; exact List.getElem?_eq_getElem hk) ?_
    clean_wf
    refine sat_call_ok (h _ (List.getElem_mem hk)) ?_
    clean_wf
    exact ⟨_, rfl⟩
  · intro ρ ⟨o, hr⟩
    subst hr
    clean_wf
    rfl
end K13

set_option Elab.async false
set_option linter.all false
set_option maxRecDepth 100000
set_option maxHeartbeats 1000000

namespace K13
open PySem Mir
/-- the k-th square of a rectangle -/
def fk (c0 r0 : Int) (nc : Nat) (h : Int) (k : Nat) : PyData := .str (ref ((c0 + (k % nc : Nat)) * sd h) ((r0 + (k / nc : Nat)) * sd h) h)
def rws (c0 r0 : Int) (nc nr : Nat) (h : Int) : List PyData := (List.range (nr * nc)).map (fk c0 r0 nc h)
def lo (a c h : Int) : Int := (if c < a then c else a) / sd h
def hi (a c h : Int) : Int := (if c > a then c else a) / sd h
theorem lohi {a c h : Int} (g : 1 ≤ h ∧ h ≤ 4) (p : 0 ≤ a ∧ a < 240000) (q : 0 ≤ c ∧ c < 240000) : 0 ≤ lo a c h ∧ lo a c h ≤ hi a c h ∧ hi a c h < 240000 ∧ ∀ x, 0 ≤ x → x ≤ hi a c h → 0 ≤ x * sd h ∧ x * sd h < 240000 := by
  unfold lo hi
  rcases sd_cases g with ⟨rfl, e⟩ | ⟨rfl, e⟩ | ⟨rfl, e⟩ | ⟨rfl, e⟩ <;> rw [e] <;> refine ⟨by omega, by omega, by omega, fun x h1 h2 => by omega⟩
theorem squares_ok {a b c d h : Int} (p : Pl a b) (q : Pl c d) (g : 1 ≤ h ∧ h ≤ 4) (hm : (hi a c h - lo a c h + 1) * (hi b d h - lo b d h + 1) ≤ 400) :
    m_squares_between [pt a b, pt c d, .int h] = .ok (.list (rws (lo a c h) (lo b d h) (hi a c h - lo a c h + 1).toNat (hi b d h - lo b d h + 1).toNat h)) := by
  refine defP_ok ?_
  unfold b_squares_between
  show Sat (runs _ [some (pt a b), some (pt c d), some (.int h), none, none, none, none, none, none, none]) _
  clean_wf
  refine sat_call_ok (is_point_ok p) ?_
  clean_wf
  refine sat_call_ok (is_point_ok q) ?_
  clean_wf
  refine sat_call_ok check_ok ?_
  clean_wf
  refine sat_call_ok (check_figures_ok g) ?_
  clean_wf
  refine sat_call_ok (side_of_ok g) ?_
  have hb := sd_b g
  clean_wf
  refine sat_lc (fun x => match x with
    | .int 0 => some (.int (lo a c h))
    | _ => some (.int (lo b d h))) ?_
  clean_wf
  refine ⟨?_, ?_⟩
  · intro x hx
    have : x = .int 0 ∨ x = .int 1 := by
      have : rangeD 0 (Int.toNat 2) = [.int 0, .int 1] := rfl
      rw [this] at hx
      simpa using hx
    rcases this with rfl | rfl
    · clean_wf
      rfl
    · clean_wf
      rfl
  clean_wf
  refine sat_lc (fun x => match x with
    | .int 0 => some (.int (hi a c h))
    | _ => some (.int (hi b d h))) ?_
  clean_wf
  refine ⟨?_, ?_⟩
  · intro x hx
    have : x = .int 0 ∨ x = .int 1 := by
      have : rangeD 0 (Int.toNat 2) = [.int 0, .int 1] := rfl
      rw [this] at hx
      simpa using hx
    rcases this with rfl | rfl
    · clean_wf
      rfl
    · clean_wf
      rfl
  obtain ⟨l1, l2, l3, l4⟩ := lohi (a := a) (c := c) g p.1 q.1
  obtain ⟨k1, k2, k3, k4⟩ := lohi (a := b) (c := d) g p.2 q.2
  generalize lo a c h = lc at *
  generalize hi a c h = hc at *
  generalize lo b d h = lr at *
  generalize hi b d h = hr at *
  show Sat (runs _ [some (pt a b), some (pt c d), some (.int h), some (.int (sd h)), some (.list [.int lc, .int lr]), some (.list [.int hc, .int hr]), none, none, none, none]) _
  clean_wf
  refine sat_for (fun _ k ρ => ∃ o1 o2 : Option PyData, ρ = [some (pt a b), some (pt c d), some (.int h), some (.int (sd h)), some (.list [.int lc, .int lr]), some (.list [.int hc, .int hr]), some (.list ((List.range (k * (hc - lc + 1).toNat)).map (fk lc lr (hc - lc + 1).toNat h))), o1, o2, none]) ?_
  have hnc : ((hc - lc + 1).toNat : Int) = hc - lc + 1 := by omega
  have hnr : ((hr - lr + 1).toNat : Int) = hr - lr + 1 := by omega
  have hm2 : (hc - lc + 1).toNat * (hr - lr + 1).toNat ≤ 400 := by
    have : (((hc - lc + 1).toNat * (hr - lr + 1).toNat : Nat) : Int) ≤ 400 := by
      rw [Int.natCast_mul, hnc, hnr]; exact hm
    omega
  have hcn : 0 < (hc - lc + 1).toNat := by omega
  have hrn : 0 < (hr - lr + 1).toNat := by omega
  generalize en : (hc - lc + 1).toNat = nc at *
  generalize er : (hr - lr + 1).toNat = nr at *
  have hnc4 : nc ≤ 400 := Nat.le_trans (Nat.le_mul_of_pos_right nc hrn) hm2
  have hnr4 : nr ≤ 400 := Nat.le_trans (Nat.le_mul_of_pos_left nr hcn) hm2
  clean_wf
  refine ⟨_, _, rfl, rfl, ⟨by omega, by omega, by omega, by omega, ?_⟩, ⟨none, none, ?_⟩, ?_, ?_⟩
  · show _ ≤ 2 ^ 24; omega
  · simp only [Nat.zero_mul, List.range_zero, List.map_nil]
    rfl
  · intro k hk ρ ⟨o1, o2, hρ⟩
    rw [rangeD_get hk]
    rw [rangeD_len] at hk
    have hk2 : k < nr := by omega
    subst hρ
    clean_wf
    refine sat_for (fun _ j ρ => ∃ o2 : Option PyData, ρ = [some (pt a b), some (pt c d), some (.int h), some (.int (sd h)), some (.list [.int lc, .int lr]), some (.list [.int hc, .int hr]), some (.list ((List.range (k * nc + j)).map (fk lc lr nc h))), some (.int (lr + k)), o2, none]) ?_
    clean_wf
    refine ⟨_, _, rfl, rfl, ⟨by omega, by omega, by omega, by omega, ?_⟩, ⟨_, rfl⟩, ?_, ?_⟩
    · show _ ≤ 2 ^ 24; omega
    · intro j hj ρ ⟨o2, hρ⟩
      rw [rangeD_get hj]
      rw [rangeD_len] at hj
      have hj2 : j < nc := by omega
      subst hρ
      obtain ⟨u1, u2⟩ := l4 (lc + j) (by omega) (by omega)
      obtain ⟨v1, v2⟩ := k4 (lr + k) (by omega) (by omega)
      clean_wf
      refine sat_call_ok (reference_by_ok ⟨⟨u1, u2⟩, v1, v2⟩ g) ?_
      have hkn : k * nc + nc ≤ nr * nc := by
        have := Nat.mul_le_mul_right nc hk2
        rw [Nat.succ_mul] at this
        exact this
      refine ⟨?_, ?_⟩
      · rw [List.length_map, List.length_range]
        show _ < 2 ^ 24
        rw [Nat.mul_comm nc nr] at hm2
        omega
      clean_wf
      refine ⟨some (.int (lc + (j : Int))), ?_⟩
      have e1 : (k * nc + j) % nc = j := by rw [Nat.mul_comm, Nat.mul_add_mod, Nat.mod_eq_of_lt hj2]
      have e2 : (k * nc + j) / nc = k := by rw [Nat.mul_comm, Nat.mul_add_div hcn, Nat.div_eq_of_lt hj2, Nat.add_zero]
      have e3 : (List.range (k * nc + (j + 1))).map (fk lc lr nc h) = (List.range (k * nc + j)).map (fk lc lr nc h) ++ [.str (ref ((lc + (j : Int)) * sd h) ((lr + (k : Int)) * sd h) h)] := by
        rw [← Nat.add_assoc, List.range_succ, List.map_append]
        show _ ++ [fk lc lr nc h (k * nc + j)] = _
        unfold fk
        rw [e1, e2]
      rw [e3]
      rfl
    · intro ρ ⟨o2, hρ⟩
      rw [rangeD_len] at hρ
      subst hρ
      clean_wf
      refine ⟨some (.int (lr + (k : Int))), o2, ?_⟩
      rw [show (hc + 1 - lc).toNat = nc by omega, Nat.succ_mul]
  · intro ρ ⟨o1, o2, hρ⟩
    rw [rangeD_len] at hρ
    subst hρ
    clean_wf
    rw [show (hr + 1 - lr).toNat = nr by omega]
    rfl
end K13

set_option Elab.async false
set_option linter.all false
set_option maxRecDepth 100000
set_option maxHeartbeats 1000000

namespace K13
open PySem Mir
theorem eqv_pt (a b c d : Int) : PyData.eqv (pt a b) (pt c d) = decide (a = c ∧ b = d) := by
  simp only [PyData.eqv, PyData.eqvAll, Bool.and_true, Bool.decide_and, Bool.beq_eq_decide_eq]
/-- the word from one point to another, so far to the east and the north -/
def bwS (x y : Int) : Str :=
  if 2 * (if x < 0 then -x else x) ≤ (if y < 0 then -y else y) then (if 0 < y then "n" else "s")
  else if 2 * (if y < 0 then -y else y) ≤ (if x < 0 then -x else x) then (if 0 < x then "e" else "w")
  else if 0 < y then (if 0 < x then "ne" else "nw") else if 0 < x then "se" else "sw"
theorem cat_ne : (("n" : Str) ++ ("e" : Str)) = ("ne" : Str) ∧ (("n" : Str) ++ ("w" : Str)) = ("nw" : Str) ∧ (("s" : Str) ++ ("e" : Str)) = ("se" : Str) ∧ (("s" : Str) ++ ("w" : Str)) = ("sw" : Str) := by decide +kernel
theorem bearing_ok {a b c d : Int} (p : Pl a b) (q : Pl c d) (hne : ¬ (a = c ∧ b = d)) : m_bearing_word [pt a b, pt c d] = .ok (.str (bwS (c - a) (d - b))) := by
  refine defP_ok ?_
  unfold b_bearing_word
  show Sat (runs _ [some (pt a b), some (pt c d), none, none, none]) _
  clean_wf
  refine sat_call_ok (is_point_ok p) ?_
  clean_wf
  refine sat_call_ok (is_point_ok q) ?_
  clean_wf
  refine sat_neT rfl rfl ?_
  rw [eqv_pt, decide_eq_false hne]
  clean_wf
  refine sat_call_ok check_ok ?_
  clean_wf
  generalize c - a = x at *
  generalize d - b = y at *
  have hl : ∀ u v : Str, u = ("n" : Str) ∨ u = ("s" : Str) → v = ("e" : Str) ∨ v = ("w" : Str) → u.length + v.length ≤ sizeLine := by
    rintro u v (rfl | rfl) (rfl | rfl) <;> decide +kernel
  refine if_dec (fun h1 => ?_) (fun h1 => ?_)
  · clean_wf
    refine if_dec (fun h2 => ?_) (fun h2 => ?_)
    · clean_wf
      refine if_dec (fun h3 => ?_) (fun h3 => ?_)
      · clean_wf
        unfold bwS; rw [if_pos h3, if_pos h1]
      · clean_wf
        refine if_dec (fun h4 => ?_) (fun h4 => ?_)
        · clean_wf
          unfold bwS; rw [if_neg h3, if_pos h4, if_pos h2]
        · clean_wf
          refine sat_addS (by decide +kernel) ?_
          clean_wf
          unfold bwS; rw [if_neg h3, if_neg h4, if_pos h1, if_pos h2, cat_ne.1]
    · clean_wf
      refine if_dec (fun h3 => ?_) (fun h3 => ?_)
      · clean_wf
        unfold bwS; rw [if_pos h3, if_pos h1]
      · clean_wf
        refine if_dec (fun h4 => ?_) (fun h4 => ?_)
        · clean_wf
          unfold bwS; rw [if_neg h3, if_pos h4, if_neg h2]
        · clean_wf
          refine sat_addS (by decide +kernel) ?_
          clean_wf
          unfold bwS; rw [if_neg h3, if_neg h4, if_pos h1, if_neg h2, cat_ne.2.1]
  · clean_wf
    refine if_dec (fun h2 => ?_) (fun h2 => ?_)
    · clean_wf
      refine if_dec (fun h3 => ?_) (fun h3 => ?_)
      · clean_wf
        unfold bwS; rw [if_pos h3, if_neg h1]
      · clean_wf
        refine if_dec (fun h4 => ?_) (fun h4 => ?_)
        · clean_wf
          unfold bwS; rw [if_neg h3, if_pos h4, if_pos h2]
        · clean_wf
          refine sat_addS (by decide +kernel) ?_
          clean_wf
          unfold bwS; rw [if_neg h3, if_neg h4, if_neg h1, if_pos h2, cat_ne.2.2.1]
    · clean_wf
      refine if_dec (fun h3 => ?_) (fun h3 => ?_)
      · clean_wf
        unfold bwS; rw [if_pos h3, if_neg h1]
      · clean_wf
        refine if_dec (fun h4 => ?_) (fun h4 => ?_)
        · clean_wf
          unfold bwS; rw [if_neg h3, if_pos h4, if_neg h2]
        · clean_wf
          refine sat_addS (by decide +kernel) ?_
          clean_wf
          unfold bwS; rw [if_neg h3, if_neg h4, if_neg h1, if_neg h2, cat_ne.2.2.2]
/-! rows of points -/
abbrev Pt := Int × Int
abbrev pd (p : Pt) : PyData := pt p.1 p.2
def Pls (ps : List Pt) : Prop := ps ≠ [] ∧ ps.length ≤ 1000 ∧ ∀ p ∈ ps, Pl p.1 p.2
theorem are_points_ok {ps : List Pt} (h : Pls ps) : m_are_points [.list (ps.map pd)] = .ok (.bool true) := by
  refine defP_ok ?_
  unfold b_are_points
  show Sat (runs _ [some (.list (ps.map pd)), none]) _
  obtain ⟨h1, h2, h3⟩ := h
  have hl : 0 < (ps.map pd).length := by rw [List.length_map]; exact List.length_pos_iff.mpr h1
  clean_wf
  refine sat_lc (fun _ => some (.bool true)) ?_
  clean_wf
  refine ⟨fun x hx => ?_, ?_⟩
  · obtain ⟨p, hp, rfl⟩ := List.mem_map.mp hx
    clean_wf
    refine sat_call_ok (is_point_ok (h3 p hp)) ?_
    clean_wf
    rfl
  · clean_wf
    rfl
def dst (a b : Int) (p : Pt) : Int := (a - p.1) * (a - p.1) + (b - p.2) * (b - p.2)
theorem nearest_ok {a b : Int} {ps : List Pt} (p : Pl a b) (h : Pls ps) : ∃ (k : Nat) (m : Int), m_nearest_point [pt a b, .list (ps.map pd)] = .ok (.int k) ∧ (ps.map (dst a b))[k]? = some m ∧ (∀ y ∈ ps.map (dst a b), m ≤ y) ∧ ∀ l y, l < k → (ps.map (dst a b))[l]? = some y → m < y := by
  refine (?_ : ∃ d, m_nearest_point [pt a b, .list (ps.map pd)] = .ok d ∧ ∃ (k : Nat) (m : Int), d = .int k ∧ (ps.map (dst a b))[k]? = some m ∧ (∀ y ∈ ps.map (dst a b), m ≤ y) ∧ ∀ l y, l < k → (ps.map (dst a b))[l]? = some y → m < y).elim fun d h => ?_
  · refine defP_sat ?_
    unfold b_nearest_point
    show Sat (runs _ [some (pt a b), some (.list (ps.map pd)), none, none]) _
    clean_wf
    refine sat_call_ok (is_point_ok p) ?_
    clean_wf
    refine sat_call_ok (are_points_ok h) ?_
    clean_wf
    refine sat_call_ok check_ok ?_
    clean_wf
    refine sat_lc (fun x => match x with
      | .tuple [.int at_, .tuple [.int e, .int n]] => some (T2 (dst a b (e, n)) at_)
      | _ => none) ?_
    clean_wf
    refine sat_lft rfl ?_
    refine ⟨fun x hx => ?_, ?_⟩
    · obtain ⟨⟨q, i⟩, hq, rfl⟩ := List.mem_map.mp hx
      have hq2 : q ∈ ps.map pd := List.fst_mem_of_mem_zipIdx hq
      obtain ⟨r, hr, rfl⟩ := List.mem_map.mp hq2
      clean_wf
      refine sat_call_ok (squared_ok p (h.2.2 r hr)) ?_
      clean_wf
      rfl
    · have e : ((ps.map pd).zipIdx.map fun p => PyData.tuple [.int (p.2 : Nat), p.1]).filterMap (fun x => match x with
        | .tuple [.int at_, .tuple [.int e, .int n]] => some (T2 (dst a b (e, n)) at_)
        | _ => none) = ((ps.map (dst a b)).zipIdx.map fun p => T2 p.1 (p.2 : Nat)) := by
        rw [List.zipIdx_map, List.zipIdx_map, List.map_map, List.map_map, List.filterMap_map]
        rw [← List.filterMap_eq_map]
        rfl
      rw [e]
      clean_wf
      refine sat_minT (by simpa using h.1) fun k m e1 e2 e3 => ?_
      clean_wf
      exact ⟨k, m, rfl, e1, e2, e3⟩
  · obtain ⟨h1, k, m, rfl, h2, h3, h4⟩ := h
    exact ⟨k, m, h1, h2, h3, h4⟩
theorem middle_ok {ps : List Pt} (h : Pls ps) : m_middle_point [.list (ps.map pd)] = .ok (pt ((ps.map (·.1)).sum / ps.length) ((ps.map (·.2)).sum / ps.length)) := by
  refine defP_ok ?_
  unfold b_middle_point
  show Sat (runs _ [some (.list (ps.map pd)), none, none, none]) _
  have hp := h.1
  have hl : 0 < ps.length := List.length_pos_iff.mpr h.1
  have hl2 : ps.length ≤ 1000 := h.2.1
  clean_wf
  refine sat_call_ok (are_points_ok h) ?_
  clean_wf
  refine sat_call_ok check_ok ?_
  clean_wf
  refine sat_lc (fun x => match x with
      | .tuple [e, _] => some e
      | _ => none) ?_
  clean_wf
  refine ⟨fun x hx => ?_, ?_⟩
  · obtain ⟨r, hr, rfl⟩ := List.mem_map.mp hx
    clean_wf
    rfl
  have e1 : (ps.map pd).filterMap (fun x => match x with
      | .tuple [e, _] => some e
      | _ => none) = (ps.map (·.1)).map PyData.int := by
    rw [List.map_map, List.filterMap_map, ← List.filterMap_eq_map]
    rfl
  rw [e1]
  clean_wf
  refine sat_sumI ?_
  clean_wf
  rw [List.length_map]
  refine sat_divI (by omega) ?_
  clean_wf
  refine sat_lc (fun x => match x with
      | .tuple [_, e] => some e
      | _ => none) ?_
  clean_wf
  refine ⟨fun x hx => ?_, ?_⟩
  · obtain ⟨r, hr, rfl⟩ := List.mem_map.mp hx
    clean_wf
    rfl
  have e1 : (ps.map pd).filterMap (fun x => match x with
      | .tuple [_, e] => some e
      | _ => none) = (ps.map (·.2)).map PyData.int := by
    rw [List.map_map, List.filterMap_map, ← List.filterMap_eq_map]
    rfl
  rw [e1]
  clean_wf
  refine sat_sumI ?_
  clean_wf
  rw [List.length_map]
  refine sat_divI (by omega) ?_
  clean_wf
  rfl
/-- the most figures that two points have in common -/
def cmR (a b c d : Int) : Option Int := if ref a b 4 = ref c d 4 then some 4 else if ref a b 3 = ref c d 3 then some 3 else if ref a b 2 = ref c d 2 then some 2 else if ref a b 1 = ref c d 1 then some 1 else none
theorem common_ok {a b c d : Int} (p : Pl a b) (q : Pl c d) : m_common_reference [pt a b, pt c d] = .ok (match cmR a b c d with
    | some h => .str (ref a b h)
    | none => .none) := by
  refine defP_ok ?_
  unfold b_common_reference
  show Sat (runs _ [some (pt a b), some (pt c d), none, none]) _
  clean_wf
  refine sat_call_ok (is_point_ok p) ?_
  clean_wf
  refine sat_call_ok (is_point_ok q) ?_
  clean_wf
  refine sat_call_ok check_ok ?_
  clean_wf
  refine sat_lc (fun x => match x with
      | .int h => if ref a b h = ref c d h then some (.str (ref a b h)) else none
      | _ => none) ?_
  clean_wf
  have er : rangeD 1 (4 + 1 - 1 : Int).toNat = [.int 1, .int 2, .int 3, .int 4] := rfl
  refine ⟨1, 4 + 1, rfl, rfl, by decide, ?_⟩
  rw [er]
  refine ⟨fun x hx => ?_, ?_⟩
  · have : ∃ h : Int, x = .int h ∧ 1 ≤ h ∧ h ≤ 4 := by
      simp only [List.mem_cons, List.not_mem_nil, or_false] at hx
      rcases hx with rfl | rfl | rfl | rfl <;> exact ⟨_, rfl, by decide⟩
    obtain ⟨h, rfl, g⟩ := this
    clean_wf
    refine sat_call_ok (reference_by_ok p g) ?_
    clean_wf
    refine sat_call_ok (reference_by_ok q g) ?_
    clean_wf
    refine if_dec (fun h1 => ?_) (fun h1 => ?_)
    · clean_wf
      refine sat_call_ok (reference_by_ok p g) ?_
      show some _ = if _ then _ else _
      rw [if_pos h1]
    · show none = if _ then _ else _
      rw [if_neg h1]
  · unfold cmR
    by_cases e1 : ref a b 1 = ref c d 1 <;> by_cases e2 : ref a b 2 = ref c d 2 <;> by_cases e3 : ref a b 3 = ref c d 3 <;> by_cases e4 : ref a b 4 = ref c d 4 <;>
      simp only [List.filterMap_cons, List.filterMap_nil, e1, e2, e3, e4, if_true, if_false] <;> (clean_wf; rfl)
theorem cmR_facts (a b c d : Int) : (cmR a b c d = none ∧ ref a b 1 ≠ ref c d 1) ∨ ∃ h, cmR a b c d = some h ∧ (1 ≤ h ∧ h ≤ 4) ∧ ref a b h = ref c d h ∧ (h < 4 → ref a b (h + 1) ≠ ref c d (h + 1)) := by
  unfold cmR
  by_cases e4 : ref a b 4 = ref c d 4
  · exact Or.inr ⟨4, by rw [if_pos e4], by decide, e4, fun h => absurd h (by decide)⟩
  by_cases e3 : ref a b 3 = ref c d 3
  · exact Or.inr ⟨3, by rw [if_neg e4, if_pos e3], by decide, e3, fun _ => e4⟩
  by_cases e2 : ref a b 2 = ref c d 2
  · exact Or.inr ⟨2, by rw [if_neg e4, if_neg e3, if_pos e2], by decide, e2, fun _ => e3⟩
  by_cases e1 : ref a b 1 = ref c d 1
  · exact Or.inr ⟨1, by rw [if_neg e4, if_neg e3, if_neg e2, if_pos e1], by decide, e1, fun _ => e2⟩
  · exact Or.inl ⟨by rw [if_neg e4, if_neg e3, if_neg e2, if_neg e1], e1⟩
theorem cmR_comm (a b c d : Int) : cmR c d a b = cmR a b c d := by
  unfold cmR
  simp only [@eq_comm _ (ref c d _)]
end K13

set_option Elab.async false
set_option linter.all false
set_option maxRecDepth 100000
set_option maxHeartbeats 4000000

namespace K13
open PySem Mir
/-! what raises -/
theorem check_exc : m_check [.bool false] = .exc "NotRight" [] := by kernel_rfl
/-- the signs of a square's figures, one by one -/
theorem fig_at {h a : Int} {k : Nat} (g : 1 ≤ h ∧ h ≤ 4) (ha : 0 ≤ a ∧ a < 10000) (hk : (k : Int) < h) : (dgs h.toNat (a / sd h).toNat)[k]? = some (48 + (a / pw (k + 1)).toNat % 10) := by
  rcases sd_cases g with ⟨rfl, e⟩ | ⟨rfl, e⟩ | ⟨rfl, e⟩ | ⟨rfl, e⟩ <;> rw [e]
  · have : k = 0 := by omega
    subst this
    exact congrArg some (congrArg (48 + ·) (by rw [show pw (0 + 1) = 1000 from rfl]))
  · have : k = 0 ∨ k = 1 := by omega
    rcases this with rfl | rfl
    · show some (48 + (a / 100).toNat / 10 % 10) = _
      rw [show pw (0 + 1) = 1000 from rfl]; congr 2; omega
    · show some (48 + (a / 100).toNat % 10) = _
      rw [show pw (1 + 1) = 100 from rfl]
  · have : k = 0 ∨ k = 1 ∨ k = 2 := by omega
    rcases this with rfl | rfl | rfl
    · show some (48 + (a / 10).toNat / 10 / 10 % 10) = _
      rw [show pw (0 + 1) = 1000 from rfl]; congr 2; omega
    · show some (48 + (a / 10).toNat / 10 % 10) = _
      rw [show pw (1 + 1) = 100 from rfl]; congr 2; omega
    · show some (48 + (a / 10).toNat % 10) = _
      rw [show pw (2 + 1) = 10 from rfl]
  · have : k = 0 ∨ k = 1 ∨ k = 2 ∨ k = 3 := by omega
    rcases this with rfl | rfl | rfl | rfl
    · show some (48 + (a / 1).toNat / 10 / 10 / 10 % 10) = _
      rw [show pw (0 + 1) = 1000 from rfl]; congr 2; omega
    · show some (48 + (a / 1).toNat / 10 / 10 % 10) = _
      rw [show pw (1 + 1) = 100 from rfl]; congr 2; omega
    · show some (48 + (a / 1).toNat / 10 % 10) = _
      rw [show pw (2 + 1) = 10 from rfl]; congr 2; omega
    · show some (48 + (a / 1).toNat % 10) = _
      rw [show pw (3 + 1) = 1 from rfl]
theorem sat_intC {S : Type} {X : Str → Prop} {d : Nat} {Q : PyData → Prop} (hd : d < 10) (h : Q (.int (d : Int))) : SatE (S := S) X (lft (bltD .int_ [.str ⟨#[48 + d]⟩])) Q :=
  sat_intF (l := [48 + d]) (n := d) (fun c hc => by rcases List.mem_singleton.mp hc with rfl; omega) (by simp) (by simp) (by show (0 * 10 + (48 + d - 48)) = d; omega) h
theorem pw_up {k : Nat} (hk : k < 4) (e : Int) (h0 : 0 ≤ e) : e / pw k * pw k + ((((e % 10000 / pw (k + 1)).toNat % 10 : Nat) : Int)) * pw (k + 1) = e / pw (k + 1) * pw (k + 1) := by
  have : k = 0 ∨ k = 1 ∨ k = 2 ∨ k = 3 := by omega
  rcases this with rfl | rfl | rfl | rfl
  · rw [show pw 0 = 10000 from rfl, show pw (0 + 1) = 1000 from rfl]; omega
  · rw [show pw 1 = 1000 from rfl, show pw (1 + 1) = 100 from rfl]; omega
  · rw [show pw 2 = 100 from rfl, show pw (2 + 1) = 10 from rfl]; omega
  · rw [show pw 3 = 10 from rfl, show pw (3 + 1) = 1 from rfl]; omega
theorem pw_pos {k : Nat} (hk : k < 4) : (1 ≤ pw (k + 1) ∧ pw (k + 1) ≤ 1000) ∧ pw k / 10 = pw (k + 1) := by
  have : k = 0 ∨ k = 1 ∨ k = 2 ∨ k = 3 := by omega
  rcases this with rfl | rfl | rfl | rfl <;> decide
theorem lsq_ok {e n h : Int} (p : Pl e n) (g : 1 ≤ h ∧ h ≤ 4) : m_law_square [.str (ref e n h)] = .ok (sq e n h) := by
  refine defP_ok ?_
  unfold b_law_square
  show Sat (runs _ [some (.str (ref e n h)), none, none, none, none, none, none]) _
  obtain ⟨⟨p1, p2⟩, p3, p4⟩ := p
  have el : ((((ref e n h).length : Nat) : Int) - 2) / 2 = h := by unfold ref; rw [strL_len, refL_len]; omega
  clean_wf
  rw [el]
  unfold ref
  refine sat_atS (l := refL e n h) (i := 0) (by omega) rfl ?_
  clean_wf
  refine let_ix (by omega) (by omega) ?_
  clean_wf
  refine sat_atS (l := refL e n h) (i := 1) (by omega) rfl ?_
  clean_wf
  refine let_ix (by omega) (by omega) ?_
  clean_wf
  refine sat_for (fun _ k ρ => ∃ o : Option PyData, ρ = [some (.str ⟨(refL e n h).toArray⟩), some (.str ("ABCDEFGHJKLMNPQRSTUVWXYZ" : Str)), some (.int h), some (.int (e / pw k * pw k)), some (.int (n / pw k * pw k)), some (.int (pw k)), o]) ?_
  clean_wf
  refine ⟨by show h ≤ 2 ^ 24; omega, by omega, ⟨none, rfl⟩, ?_, ?_⟩
  · intro k hk ρ ⟨o, hr⟩
    rw [rangeD_get hk, Int.zero_add]
    rw [rangeD_len] at hk
    have hk4 : k < 4 := by omega
    subst hr
    obtain ⟨⟨w1, w2⟩, w3⟩ := pw_pos hk4
    clean_wf
    rw [w3]
    have a1 : (refL e n h)[(2 + (k : Int)).toNat]? = some (48 + (e % 10000 / pw (k + 1)).toNat % 10) := by
      rw [show (2 + (k : Int)).toNat = k + 2 by omega]
      show (dgs h.toNat (e % 10000 / sd h).toNat ++ dgs h.toNat (n % 10000 / sd h).toNat)[k]? = _
      rw [List.getElem?_append_left (by rw [dgs_len]; omega)]
      exact fig_at g (by omega) (by omega)
    have a2 : (refL e n h)[(2 + h + (k : Int)).toNat]? = some (48 + (n % 10000 / pw (k + 1)).toNat % 10) := by
      rw [show (2 + h + (k : Int)).toNat = (h.toNat + k) + 2 by omega]
      show (dgs h.toNat (e % 10000 / sd h).toNat ++ dgs h.toNat (n % 10000 / sd h).toNat)[h.toNat + k]? = _
      rw [List.getElem?_append_right (by rw [dgs_len]; omega), dgs_len, show h.toNat + k - h.toNat = k by omega]
      exact fig_at g (by omega) (by omega)
    refine sat_atS (by omega) a1 ?_
    clean_wf
    refine sat_intC (Nat.mod_lt _ (by decide)) ?_
    clean_wf
    refine sat_atS (by omega) a2 ?_
    clean_wf
    refine sat_intC (Nat.mod_lt _ (by decide)) ?_
    clean_wf
    rw [pw_up hk4 e p1, pw_up hk4 n p3]
    exact ⟨some (.int (k : Int)), rfl⟩
  · intro ρ ⟨o, hr⟩
    rw [rangeD_len] at hr
    have hp : pw h.toNat = sd h := by
      unfold pw
      rw [if_neg (by omega), Int.toNat_of_nonneg (by omega)]
    rw [hp] at hr
    subst hr
    clean_wf
    rfl
theorem moved_ok {a b x y : Int} (p : Pl a b) (q : Pl (a + x) (b + y)) : m_moved_point [pt a b, .int x, .int y] = .ok (pt (a + x) (b + y)) := by
  refine defP_ok ?_
  unfold b_moved_point
  show Sat (runs _ [some (pt a b), some (.int x), some (.int y), none]) _
  clean_wf
  refine sat_call_ok (is_point_ok p) ?_
  clean_wf
  refine sat_call_ok (is_integer_int x) ?_
  clean_wf
  refine sat_call_ok (is_integer_int y) ?_
  clean_wf
  refine sat_call_ok check_ok ?_
  clean_wf
  refine sat_call_ok (is_point_ok q) ?_
  clean_wf
  rfl
theorem is_within_no {i a b : Int} (h : ¬ (a ≤ i ∧ i ≤ b)) : m_is_within [.int i, .int a, .int b] = .ok (.bool false) := by
  refine defP_ok ?_
  unfold b_is_within
  show Sat (runs _ [some (.int i), some (.int a), some (.int b)]) _
  clean_wf
  refine sat_call_ok (is_integer_int i) ?_
  clean_wf
  refine if_dec (fun h1 => ?_) (fun h1 => ?_)
  · clean_wf
    rw [decide_eq_false (fun h2 => h ⟨h1, h2⟩)]
  · clean_wf
    rw [decide_eq_false h1]
theorem sat_allB {S : Type} {X : Str → Prop} {xs : List PyData} {f : PyData → Bool} {Q : PyData → Prop} (h : Q (.bool (xs.all f))) : SatE (S := S) X (lft (bltD .all_ [.list (xs.filterMap fun x => some (PyData.bool (f x)))])) Q := sat_lft (by
  show (if ((xs.filterMap fun x => some (PyData.bool (f x))).all okD) = true then R.ok (PyData.bool ((xs.filterMap fun x => some (PyData.bool (f x))).all truthy)) else .bad) = _
  have e1 : (xs.filterMap fun x => some (PyData.bool (f x))).all okD = true := by
    simp only [List.all_eq_true, List.mem_filterMap]
    rintro x ⟨y, _, e⟩
    cases e; rfl
  have e2 : ∀ xs : List PyData, (xs.filterMap fun x => some (PyData.bool (f x))).all truthy = xs.all f := fun xs => by
    induction xs with
    | nil => rfl
    | cons x r ih => simp only [List.filterMap_cons, List.all_cons]; rw [ih]; rfl
  rw [e1, e2 xs]; rfl) h
theorem is_point_no {e n : Int} (h : ¬ Pl e n) : m_is_point [pt e n] = .ok (.bool false) := by
  refine defP_ok ?_
  unfold b_is_point
  show Sat (runs _ [some (pt e n), none]) _
  clean_wf
  refine sat_lc (fun x => some (.bool ((fun x => match x with
    | .int i => decide (0 ≤ i ∧ i ≤ 239999)
    | _ => false) x))) ?_
  clean_wf
  refine ⟨fun x hx => ?_, ?_⟩
  · have : ∃ i : Int, x = .int i := by
      rcases List.mem_cons.mp hx with rfl | hx
      · exact ⟨_, rfl⟩
      · rcases List.mem_singleton.mp hx with rfl
        exact ⟨_, rfl⟩
    obtain ⟨i, rfl⟩ := this
    clean_wf
    by_cases hi : 0 ≤ i ∧ i ≤ 239999
    · refine sat_call_ok (is_within_int hi) ?_
      clean_wf
      exact congrArg some (congrArg PyData.bool (decide_eq_true hi).symm)
    · refine sat_call_ok (is_within_no hi) ?_
      clean_wf
      exact congrArg some (congrArg PyData.bool (decide_eq_false hi).symm)
  · clean_wf
    refine sat_allB (f := fun x => match x with
      | .int i => decide (0 ≤ i ∧ i ≤ 239999)
      | _ => false) ?_
    clean_wf
    refine congrArg PyData.bool ?_
    show (decide (0 ≤ e ∧ e ≤ 239999) && (decide (0 ≤ n ∧ n ≤ 239999) && true)) = false
    by_cases c1 : 0 ≤ e ∧ e ≤ 239999
    · by_cases c2 : 0 ≤ n ∧ n ≤ 239999
      · exact absurd (show Pl e n from ⟨by omega, by omega⟩) h
      · rw [decide_eq_false c2]; simp
    · rw [decide_eq_false c1]; rfl
theorem moved_exc {a b x y : Int} (p : Pl a b) (q : ¬ Pl (a + x) (b + y)) : ∃ l, m_moved_point [pt a b, .int x, .int y] = .exc "NoAnswer" l := by
  refine defP_exc ?_
  unfold b_moved_point
  show SatE _ (runs _ [some (pt a b), some (.int x), some (.int y), none]) _
  clean_wf
  refine sat_call_ok (is_point_ok p) ?_
  clean_wf
  refine sat_call_ok (is_integer_int x) ?_
  clean_wf
  refine sat_call_ok (is_integer_int y) ?_
  clean_wf
  refine sat_call_ok check_ok ?_
  clean_wf
  refine sat_call_ok (is_point_no q) ?_
  clean_wf
  rfl
end K13

set_option Elab.async false
set_option linter.all false
set_option maxRecDepth 100000
set_option maxHeartbeats 4000000

namespace K13
open PySem Mir
theorem told0 {x d : PyData} (h : m_square_of [x] = .ok d) : m_law_told [.int 0, .tuple [x]] = .ok d := told_val (defP_ok (by
  unfold b_law_told
  show Sat (runs _ [some (.int 0), some (.tuple [x]), none]) _
  clean_wf
  refine sat_call_ok h ?_
  clean_wf
  rfl))
theorem told0x {x : PyData} {c : Str} {bs : List Bool} (h : ∃ l, m_square_of [x] = .exc c l) (e : tab_x.lookup c = some bs) : m_law_told [.int 0, .tuple [x]] = .ok (.list (bs.map PyData.bool)) := by
  obtain ⟨l, h⟩ := h
  obtain ⟨l', h'⟩ := defP_exc (n := N_law_told.length) (body := b_law_told) (args := [.int 0, .tuple [x]]) (x := c) (by
    unfold b_law_told
    show SatE _ (runs _ [some (.int 0), some (.tuple [x]), none]) _
    clean_wf
    exact sat_call_exc h rfl)
  exact told_exc h' e
theorem told1 {x d : PyData} (h : m_middle_point [x] = .ok d) : m_law_told [.int 1, .tuple [x]] = .ok d := told_val (defP_ok (by
  unfold b_law_told
  show Sat (runs _ [some (.int 1), some (.tuple [x]), none]) _
  clean_wf
  refine sat_call_ok h ?_
  clean_wf
  rfl))
theorem told1x {x : PyData} {c : Str} {bs : List Bool} (h : ∃ l, m_middle_point [x] = .exc c l) (e : tab_x.lookup c = some bs) : m_law_told [.int 1, .tuple [x]] = .ok (.list (bs.map PyData.bool)) := by
  obtain ⟨l, h⟩ := h
  obtain ⟨l', h'⟩ := defP_exc (n := N_law_told.length) (body := b_law_told) (args := [.int 1, .tuple [x]]) (x := c) (by
    unfold b_law_told
    show SatE _ (runs _ [some (.int 1), some (.tuple [x]), none]) _
    clean_wf
    exact sat_call_exc h rfl)
  exact told_exc h' e
theorem told2 {x y d : PyData} (h : m_reference_of [x, y] = .ok d) : m_law_told [.int 2, .tuple [x, y]] = .ok d := told_val (defP_ok (by
  unfold b_law_told
  show Sat (runs _ [some (.int 2), some (.tuple [x, y]), none]) _
  clean_wf
  refine sat_call_ok h ?_
  clean_wf
  rfl))
theorem told2x {x y : PyData} {c : Str} {bs : List Bool} (h : ∃ l, m_reference_of [x, y] = .exc c l) (e : tab_x.lookup c = some bs) : m_law_told [.int 2, .tuple [x, y]] = .ok (.list (bs.map PyData.bool)) := by
  obtain ⟨l, h⟩ := h
  obtain ⟨l', h'⟩ := defP_exc (n := N_law_told.length) (body := b_law_told) (args := [.int 2, .tuple [x, y]]) (x := c) (by
    unfold b_law_told
    show SatE _ (runs _ [some (.int 2), some (.tuple [x, y]), none]) _
    clean_wf
    exact sat_call_exc h rfl)
  exact told_exc h' e
theorem told3 {x y d : PyData} (h : m_holds_point [x, y] = .ok d) : m_law_told [.int 3, .tuple [x, y]] = .ok d := told_val (defP_ok (by
  unfold b_law_told
  show Sat (runs _ [some (.int 3), some (.tuple [x, y]), none]) _
  clean_wf
  refine sat_call_ok h ?_
  clean_wf
  rfl))
theorem told3x {x y : PyData} {c : Str} {bs : List Bool} (h : ∃ l, m_holds_point [x, y] = .exc c l) (e : tab_x.lookup c = some bs) : m_law_told [.int 3, .tuple [x, y]] = .ok (.list (bs.map PyData.bool)) := by
  obtain ⟨l, h⟩ := h
  obtain ⟨l', h'⟩ := defP_exc (n := N_law_told.length) (body := b_law_told) (args := [.int 3, .tuple [x, y]]) (x := c) (by
    unfold b_law_told
    show SatE _ (runs _ [some (.int 3), some (.tuple [x, y]), none]) _
    clean_wf
    exact sat_call_exc h rfl)
  exact told_exc h' e
theorem told4 {x y d : PyData} (h : m_do_touch [x, y] = .ok d) : m_law_told [.int 4, .tuple [x, y]] = .ok d := told_val (defP_ok (by
  unfold b_law_told
  show Sat (runs _ [some (.int 4), some (.tuple [x, y]), none]) _
  clean_wf
  refine sat_call_ok h ?_
  clean_wf
  rfl))
theorem told4x {x y : PyData} {c : Str} {bs : List Bool} (h : ∃ l, m_do_touch [x, y] = .exc c l) (e : tab_x.lookup c = some bs) : m_law_told [.int 4, .tuple [x, y]] = .ok (.list (bs.map PyData.bool)) := by
  obtain ⟨l, h⟩ := h
  obtain ⟨l', h'⟩ := defP_exc (n := N_law_told.length) (body := b_law_told) (args := [.int 4, .tuple [x, y]]) (x := c) (by
    unfold b_law_told
    show SatE _ (runs _ [some (.int 4), some (.tuple [x, y]), none]) _
    clean_wf
    exact sat_call_exc h rfl)
  exact told_exc h' e
theorem told5 {x y d : PyData} (h : m_shortened_reference [x, y] = .ok d) : m_law_told [.int 5, .tuple [x, y]] = .ok d := told_val (defP_ok (by
  unfold b_law_told
  show Sat (runs _ [some (.int 5), some (.tuple [x, y]), none]) _
  clean_wf
  refine sat_call_ok h ?_
  clean_wf
  rfl))
theorem told5x {x y : PyData} {c : Str} {bs : List Bool} (h : ∃ l, m_shortened_reference [x, y] = .exc c l) (e : tab_x.lookup c = some bs) : m_law_told [.int 5, .tuple [x, y]] = .ok (.list (bs.map PyData.bool)) := by
  obtain ⟨l, h⟩ := h
  obtain ⟨l', h'⟩ := defP_exc (n := N_law_told.length) (body := b_law_told) (args := [.int 5, .tuple [x, y]]) (x := c) (by
    unfold b_law_told
    show SatE _ (runs _ [some (.int 5), some (.tuple [x, y]), none]) _
    clean_wf
    exact sat_call_exc h rfl)
  exact told_exc h' e
theorem told6 {x y d : PyData} (h : m_distance_squared [x, y] = .ok d) : m_law_told [.int 6, .tuple [x, y]] = .ok d := told_val (defP_ok (by
  unfold b_law_told
  show Sat (runs _ [some (.int 6), some (.tuple [x, y]), none]) _
  clean_wf
  refine sat_call_ok h ?_
  clean_wf
  rfl))
theorem told6x {x y : PyData} {c : Str} {bs : List Bool} (h : ∃ l, m_distance_squared [x, y] = .exc c l) (e : tab_x.lookup c = some bs) : m_law_told [.int 6, .tuple [x, y]] = .ok (.list (bs.map PyData.bool)) := by
  obtain ⟨l, h⟩ := h
  obtain ⟨l', h'⟩ := defP_exc (n := N_law_told.length) (body := b_law_told) (args := [.int 6, .tuple [x, y]]) (x := c) (by
    unfold b_law_told
    show SatE _ (runs _ [some (.int 6), some (.tuple [x, y]), none]) _
    clean_wf
    exact sat_call_exc h rfl)
  exact told_exc h' e
theorem told7 {x y d : PyData} (h : m_bearing_word [x, y] = .ok d) : m_law_told [.int 7, .tuple [x, y]] = .ok d := told_val (defP_ok (by
  unfold b_law_told
  show Sat (runs _ [some (.int 7), some (.tuple [x, y]), none]) _
  clean_wf
  refine sat_call_ok h ?_
  clean_wf
  rfl))
theorem told7x {x y : PyData} {c : Str} {bs : List Bool} (h : ∃ l, m_bearing_word [x, y] = .exc c l) (e : tab_x.lookup c = some bs) : m_law_told [.int 7, .tuple [x, y]] = .ok (.list (bs.map PyData.bool)) := by
  obtain ⟨l, h⟩ := h
  obtain ⟨l', h'⟩ := defP_exc (n := N_law_told.length) (body := b_law_told) (args := [.int 7, .tuple [x, y]]) (x := c) (by
    unfold b_law_told
    show SatE _ (runs _ [some (.int 7), some (.tuple [x, y]), none]) _
    clean_wf
    exact sat_call_exc h rfl)
  exact told_exc h' e
theorem told8 {x y d : PyData} (h : m_nearest_point [x, y] = .ok d) : m_law_told [.int 8, .tuple [x, y]] = .ok d := told_val (defP_ok (by
  unfold b_law_told
  show Sat (runs _ [some (.int 8), some (.tuple [x, y]), none]) _
  clean_wf
  refine sat_call_ok h ?_
  clean_wf
  rfl))
theorem told8x {x y : PyData} {c : Str} {bs : List Bool} (h : ∃ l, m_nearest_point [x, y] = .exc c l) (e : tab_x.lookup c = some bs) : m_law_told [.int 8, .tuple [x, y]] = .ok (.list (bs.map PyData.bool)) := by
  obtain ⟨l, h⟩ := h
  obtain ⟨l', h'⟩ := defP_exc (n := N_law_told.length) (body := b_law_told) (args := [.int 8, .tuple [x, y]]) (x := c) (by
    unfold b_law_told
    show SatE _ (runs _ [some (.int 8), some (.tuple [x, y]), none]) _
    clean_wf
    exact sat_call_exc h rfl)
  exact told_exc h' e
theorem told9 {x y d : PyData} (h : m_common_reference [x, y] = .ok d) : m_law_told [.int 9, .tuple [x, y]] = .ok d := told_val (defP_ok (by
  unfold b_law_told
  show Sat (runs _ [some (.int 9), some (.tuple [x, y]), none]) _
  clean_wf
  refine sat_call_ok h ?_
  clean_wf
  rfl))
theorem told9x {x y : PyData} {c : Str} {bs : List Bool} (h : ∃ l, m_common_reference [x, y] = .exc c l) (e : tab_x.lookup c = some bs) : m_law_told [.int 9, .tuple [x, y]] = .ok (.list (bs.map PyData.bool)) := by
  obtain ⟨l, h⟩ := h
  obtain ⟨l', h'⟩ := defP_exc (n := N_law_told.length) (body := b_law_told) (args := [.int 9, .tuple [x, y]]) (x := c) (by
    unfold b_law_told
    show SatE _ (runs _ [some (.int 9), some (.tuple [x, y]), none]) _
    clean_wf
    exact sat_call_exc h rfl)
  exact told_exc h' e
theorem told10 {x y z d : PyData} (h : m_squares_between [x, y, z] = .ok d) : m_law_told [.int 10, .tuple [x, y, z]] = .ok d := told_val (defP_ok (by
  unfold b_law_told
  show Sat (runs _ [some (.int 10), some (.tuple [x, y, z]), none]) _
  clean_wf
  refine sat_call_ok h ?_
  clean_wf
  rfl))
theorem told10x {x y z : PyData} {c : Str} {bs : List Bool} (h : ∃ l, m_squares_between [x, y, z] = .exc c l) (e : tab_x.lookup c = some bs) : m_law_told [.int 10, .tuple [x, y, z]] = .ok (.list (bs.map PyData.bool)) := by
  obtain ⟨l, h⟩ := h
  obtain ⟨l', h'⟩ := defP_exc (n := N_law_told.length) (body := b_law_told) (args := [.int 10, .tuple [x, y, z]]) (x := c) (by
    unfold b_law_told
    show SatE _ (runs _ [some (.int 10), some (.tuple [x, y, z]), none]) _
    clean_wf
    exact sat_call_exc h rfl)
  exact told_exc h' e
theorem told11 {x y z d : PyData} (h : m_moved_point [x, y, z] = .ok d) : m_law_told [.int 11, .tuple [x, y, z]] = .ok d := told_val (defP_ok (by
  unfold b_law_told
  show Sat (runs _ [some (.int 11), some (.tuple [x, y, z]), none]) _
  clean_wf
  refine sat_call_ok h ?_
  clean_wf
  rfl))
theorem told11x {x y z : PyData} {c : Str} {bs : List Bool} (h : ∃ l, m_moved_point [x, y, z] = .exc c l) (e : tab_x.lookup c = some bs) : m_law_told [.int 11, .tuple [x, y, z]] = .ok (.list (bs.map PyData.bool)) := by
  obtain ⟨l, h⟩ := h
  obtain ⟨l', h'⟩ := defP_exc (n := N_law_told.length) (body := b_law_told) (args := [.int 11, .tuple [x, y, z]]) (x := c) (by
    unfold b_law_told
    show SatE _ (runs _ [some (.int 11), some (.tuple [x, y, z]), none]) _
    clean_wf
    exact sat_call_exc h rfl)
  exact told_exc h' e
theorem x_square {d : PyData} (b : m_is_reference [d] = .ok (.bool false)) : ∃ l, m_square_of [d] = .exc "NotRight" l := by
  refine defP_exc ?_
  unfold b_square_of
  show SatE _ (runs _ [some (d)]) _
  clean_wf
  refine sat_call_ok b ?_
  clean_wf
  refine sat_call_exc check_exc ?_
  rfl
theorem x_middle {d : PyData} (b : m_are_points [d] = .ok (.bool false)) : ∃ l, m_middle_point [d] = .exc "NotRight" l := by
  refine defP_exc ?_
  unfold b_middle_point
  show SatE _ (runs _ [some (d), none, none, none]) _
  clean_wf
  refine sat_call_ok b ?_
  clean_wf
  refine sat_call_exc check_exc ?_
  rfl
theorem x_ref {d : PyData} (b : m_is_point [d] = .ok (.bool false)) {k : PyData} : ∃ l, m_reference_of [d, k] = .exc "NotRight" l := by
  refine defP_exc ?_
  unfold b_reference_of
  show SatE _ (runs _ [some (d), some (k)]) _
  clean_wf
  refine sat_call_ok b ?_
  clean_wf
  refine sat_call_exc check_exc ?_
  rfl
theorem x_holds1 {d : PyData} (b : m_is_reference [d] = .ok (.bool false)) {k : PyData} : ∃ l, m_holds_point [d, k] = .exc "NotRight" l := by
  refine defP_exc ?_
  unfold b_holds_point
  show SatE _ (runs _ [some (d), some (k), none, none, none]) _
  clean_wf
  refine sat_call_ok b ?_
  clean_wf
  refine sat_call_exc check_exc ?_
  rfl
theorem x_holds2 {e n h : Int} (q : Pl e n) (g : 1 ≤ h ∧ h ≤ 4) {d : PyData} (b : m_is_point [d] = .ok (.bool false)) : ∃ l, m_holds_point [.str (ref e n h), d] = .exc "NotRight" l := by
  refine defP_exc ?_
  unfold b_holds_point
  show SatE _ (runs _ [some (.str (ref e n h)), some (d), none, none, none]) _
  clean_wf
  refine sat_call_ok (is_reference_ok q g) ?_
  clean_wf
  refine sat_call_ok b ?_
  clean_wf
  refine sat_call_exc check_exc ?_
  rfl
theorem x_touch1 {d : PyData} (b : m_is_reference [d] = .ok (.bool false)) {k : PyData} : ∃ l, m_do_touch [d, k] = .exc "NotRight" l := by
  refine defP_exc ?_
  unfold b_do_touch
  show SatE _ (runs _ [some (d), some (k), none, none, none, none, none, none]) _
  clean_wf
  refine sat_call_ok b ?_
  clean_wf
  refine sat_call_exc check_exc ?_
  rfl
theorem x_touch2 {e n h : Int} (q : Pl e n) (g : 1 ≤ h ∧ h ≤ 4) {d : PyData} (b : m_is_reference [d] = .ok (.bool false)) : ∃ l, m_do_touch [.str (ref e n h), d] = .exc "NotRight" l := by
  refine defP_exc ?_
  unfold b_do_touch
  show SatE _ (runs _ [some (.str (ref e n h)), some (d), none, none, none, none, none, none]) _
  clean_wf
  refine sat_call_ok (is_reference_ok q g) ?_
  clean_wf
  refine sat_call_ok b ?_
  clean_wf
  refine sat_call_exc check_exc ?_
  rfl
theorem x_short1 {d : PyData} (b : m_is_reference [d] = .ok (.bool false)) {k : PyData} : ∃ l, m_shortened_reference [d, k] = .exc "NotRight" l := by
  refine defP_exc ?_
  unfold b_shortened_reference
  show SatE _ (runs _ [some (d), some (k), none]) _
  clean_wf
  refine sat_call_ok b ?_
  clean_wf
  refine sat_call_exc check_exc ?_
  rfl
theorem x_dist1 {d : PyData} (b : m_is_point [d] = .ok (.bool false)) {k : PyData} : ∃ l, m_distance_squared [d, k] = .exc "NotRight" l := by
  refine defP_exc ?_
  unfold b_distance_squared
  show SatE _ (runs _ [some (d), some (k)]) _
  clean_wf
  refine sat_call_ok b ?_
  clean_wf
  refine sat_call_exc check_exc ?_
  rfl
theorem x_dist2 {a c : Int} (p : Pl a c) {d : PyData} (b : m_is_point [d] = .ok (.bool false)) : ∃ l, m_distance_squared [pt a c, d] = .exc "NotRight" l := by
  refine defP_exc ?_
  unfold b_distance_squared
  show SatE _ (runs _ [some (pt a c), some (d)]) _
  clean_wf
  refine sat_call_ok (is_point_ok p) ?_
  clean_wf
  refine sat_call_ok b ?_
  clean_wf
  refine sat_call_exc check_exc ?_
  rfl
theorem x_bear1 {d : PyData} (b : m_is_point [d] = .ok (.bool false)) {k : PyData} : ∃ l, m_bearing_word [d, k] = .exc "NotRight" l := by
  refine defP_exc ?_
  unfold b_bearing_word
  show SatE _ (runs _ [some (d), some (k), none, none, none]) _
  clean_wf
  refine sat_call_ok b ?_
  clean_wf
  refine sat_call_exc check_exc ?_
  rfl
theorem x_bear2 {a c : Int} (p : Pl a c) {d : PyData} (b : m_is_point [d] = .ok (.bool false)) : ∃ l, m_bearing_word [pt a c, d] = .exc "NotRight" l := by
  refine defP_exc ?_
  unfold b_bearing_word
  show SatE _ (runs _ [some (pt a c), some (d), none, none, none]) _
  clean_wf
  refine sat_call_ok (is_point_ok p) ?_
  clean_wf
  refine sat_call_ok b ?_
  clean_wf
  refine sat_call_exc check_exc ?_
  rfl
theorem x_near1 {d : PyData} (b : m_is_point [d] = .ok (.bool false)) {k : PyData} : ∃ l, m_nearest_point [d, k] = .exc "NotRight" l := by
  refine defP_exc ?_
  unfold b_nearest_point
  show SatE _ (runs _ [some (d), some (k), none, none]) _
  clean_wf
  refine sat_call_ok b ?_
  clean_wf
  refine sat_call_exc check_exc ?_
  rfl
theorem x_near2 {a c : Int} (p : Pl a c) {d : PyData} (b : m_are_points [d] = .ok (.bool false)) : ∃ l, m_nearest_point [pt a c, d] = .exc "NotRight" l := by
  refine defP_exc ?_
  unfold b_nearest_point
  show SatE _ (runs _ [some (pt a c), some (d), none, none]) _
  clean_wf
  refine sat_call_ok (is_point_ok p) ?_
  clean_wf
  refine sat_call_ok b ?_
  clean_wf
  refine sat_call_exc check_exc ?_
  rfl
theorem x_com1 {d : PyData} (b : m_is_point [d] = .ok (.bool false)) {k : PyData} : ∃ l, m_common_reference [d, k] = .exc "NotRight" l := by
  refine defP_exc ?_
  unfold b_common_reference
  show SatE _ (runs _ [some (d), some (k), none, none]) _
  clean_wf
  refine sat_call_ok b ?_
  clean_wf
  refine sat_call_exc check_exc ?_
  rfl
theorem x_com2 {a c : Int} (p : Pl a c) {d : PyData} (b : m_is_point [d] = .ok (.bool false)) : ∃ l, m_common_reference [pt a c, d] = .exc "NotRight" l := by
  refine defP_exc ?_
  unfold b_common_reference
  show SatE _ (runs _ [some (pt a c), some (d), none, none]) _
  clean_wf
  refine sat_call_ok (is_point_ok p) ?_
  clean_wf
  refine sat_call_ok b ?_
  clean_wf
  refine sat_call_exc check_exc ?_
  rfl
theorem x_sq1 {d : PyData} (b : m_is_point [d] = .ok (.bool false)) {k j : PyData} : ∃ l, m_squares_between [d, k, j] = .exc "NotRight" l := by
  refine defP_exc ?_
  unfold b_squares_between
  show SatE _ (runs _ [some (d), some (k), some (j), none, none, none, none, none, none, none]) _
  clean_wf
  refine sat_call_ok b ?_
  clean_wf
  refine sat_call_exc check_exc ?_
  rfl
theorem x_sq2 {a c : Int} (p : Pl a c) {d : PyData} (b : m_is_point [d] = .ok (.bool false)) {j : PyData} : ∃ l, m_squares_between [pt a c, d, j] = .exc "NotRight" l := by
  refine defP_exc ?_
  unfold b_squares_between
  show SatE _ (runs _ [some (pt a c), some (d), some (j), none, none, none, none, none, none, none]) _
  clean_wf
  refine sat_call_ok (is_point_ok p) ?_
  clean_wf
  refine sat_call_ok b ?_
  clean_wf
  refine sat_call_exc check_exc ?_
  rfl
theorem x_mov1 {d : PyData} (b : m_is_point [d] = .ok (.bool false)) {k j : PyData} : ∃ l, m_moved_point [d, k, j] = .exc "NotRight" l := by
  refine defP_exc ?_
  unfold b_moved_point
  show SatE _ (runs _ [some (d), some (k), some (j), none]) _
  clean_wf
  refine sat_call_ok b ?_
  clean_wf
  refine sat_call_exc check_exc ?_
  rfl
theorem x_mov2 {a c : Int} (p : Pl a c) {d : PyData} (b : m_is_integer [d] = .ok (.bool false)) {j : PyData} : ∃ l, m_moved_point [pt a c, d, j] = .exc "NotRight" l := by
  refine defP_exc ?_
  unfold b_moved_point
  show SatE _ (runs _ [some (pt a c), some (d), some (j), none]) _
  clean_wf
  refine sat_call_ok (is_point_ok p) ?_
  clean_wf
  refine sat_call_ok b ?_
  clean_wf
  refine sat_call_exc check_exc ?_
  rfl
theorem x_mov3 {a c : Int} (p : Pl a c) {i : Int} {d : PyData} (b : m_is_integer [d] = .ok (.bool false)) : ∃ l, m_moved_point [pt a c, .int i, d] = .exc "NotRight" l := by
  refine defP_exc ?_
  unfold b_moved_point
  show SatE _ (runs _ [some (pt a c), some (.int i), some (d), none]) _
  clean_wf
  refine sat_call_ok (is_point_ok p) ?_
  clean_wf
  refine sat_call_ok (is_integer_int i) ?_
  clean_wf
  refine sat_call_ok b ?_
  clean_wf
  refine sat_call_exc check_exc ?_
  rfl
/-- the figures' check fails -/
theorem x_fig {d : PyData} (b : m_is_within [d, .int 1, .int 4] = .ok (.bool false)) : ∃ l, m_check_figures [d] = .exc "NotRight" l := by
  refine defP_exc ?_
  unfold b_check_figures
  show SatE _ (runs _ [some d]) _
  clean_wf
  refine sat_call_ok b ?_
  clean_wf
  refine sat_call_exc check_exc ?_
  rfl
theorem x_ref2 {a c : Int} (p : Pl a c) {d : PyData} (b : m_is_within [d, .int 1, .int 4] = .ok (.bool false)) : ∃ l, m_reference_of [pt a c, d] = .exc "NotRight" l := by
  obtain ⟨l, h⟩ := x_fig b
  refine defP_exc ?_
  unfold b_reference_of
  show SatE _ (runs _ [some (pt a c), some d]) _
  clean_wf
  refine sat_call_ok (is_point_ok p) ?_
  clean_wf
  refine sat_call_ok check_ok ?_
  clean_wf
  refine sat_call_exc h ?_
  rfl
theorem x_sq3 {a c e f : Int} (p : Pl a c) (q : Pl e f) {d : PyData} (b : m_is_within [d, .int 1, .int 4] = .ok (.bool false)) : ∃ l, m_squares_between [pt a c, pt e f, d] = .exc "NotRight" l := by
  obtain ⟨l, h⟩ := x_fig b
  refine defP_exc ?_
  unfold b_squares_between
  show SatE _ (runs _ [some (pt a c), some (pt e f), some d, none, none, none, none, none, none, none]) _
  clean_wf
  refine sat_call_ok (is_point_ok p) ?_
  clean_wf
  refine sat_call_ok (is_point_ok q) ?_
  clean_wf
  refine sat_call_ok check_ok ?_
  clean_wf
  refine sat_call_exc h ?_
  rfl
theorem x_short2 {e n h : Int} (q : Pl e n) (g : 1 ≤ h ∧ h ≤ 4) {d : PyData} (b : m_is_within [d, .int 1, .int h] = .ok (.bool false)) : ∃ l, m_shortened_reference [.str (ref e n h), d] = .exc "NotRight" l := by
  refine defP_exc ?_
  unfold b_shortened_reference
  show SatE _ (runs _ [some (.str (ref e n h)), some d, none]) _
  clean_wf
  refine sat_call_ok (is_reference_ok q g) ?_
  clean_wf
  refine sat_call_ok check_ok ?_
  clean_wf
  have el : ((((ref e n h).length : Nat) : Int) - 2) / 2 = h := by unfold ref; rw [strL_len, refL_len]; omega
  rw [el]
  refine sat_call_ok b ?_
  clean_wf
  refine sat_call_exc check_exc ?_
  rfl
theorem x_bear3 {a c : Int} (p : Pl a c) : ∃ l, m_bearing_word [pt a c, pt a c] = .exc "NotRight" l := by
  refine defP_exc ?_
  unfold b_bearing_word
  show SatE _ (runs _ [some (pt a c), some (pt a c), none, none, none]) _
  clean_wf
  refine sat_call_ok (is_point_ok p) ?_
  clean_wf
  refine sat_call_ok (is_point_ok p) ?_
  clean_wf
  refine sat_neR rfl rfl ?_
  clean_wf
  refine sat_call_exc check_exc ?_
  rfl
theorem x_large {a b c d h : Int} (p : Pl a b) (q : Pl c d) (g : 1 ≤ h ∧ h ≤ 4) (hm : 400 < (hi a c h - lo a c h + 1) * (hi b d h - lo b d h + 1)) : ∃ l, m_squares_between [pt a b, pt c d, .int h] = .exc "TooLarge" l := by
  refine defP_exc ?_
  unfold b_squares_between
  show SatE _ (runs _ [some (pt a b), some (pt c d), some (.int h), none, none, none, none, none, none, none]) _
  clean_wf
  refine sat_call_ok (is_point_ok p) ?_
  clean_wf
  refine sat_call_ok (is_point_ok q) ?_
  clean_wf
  refine sat_call_ok check_ok ?_
  clean_wf
  refine sat_call_ok (check_figures_ok g) ?_
  clean_wf
  refine sat_call_ok (side_of_ok g) ?_
  have hb := sd_b g
  clean_wf
  refine sat_lc (fun x => match x with
    | .int 0 => some (.int (lo a c h))
    | _ => some (.int (lo b d h))) ?_
  clean_wf
  refine ⟨?_, ?_⟩
  · intro x hx
    have : x = .int 0 ∨ x = .int 1 := by
      have : rangeD 0 (Int.toNat 2) = [.int 0, .int 1] := rfl
      rw [this] at hx
      simpa using hx
    rcases this with rfl | rfl
    · clean_wf
      rfl
    · clean_wf
      rfl
  clean_wf
  refine sat_lc (fun x => match x with
    | .int 0 => some (.int (hi a c h))
    | _ => some (.int (hi b d h))) ?_
  clean_wf
  refine ⟨?_, ?_⟩
  · intro x hx
    have : x = .int 0 ∨ x = .int 1 := by
      have : rangeD 0 (Int.toNat 2) = [.int 0, .int 1] := rfl
      rw [this] at hx
      simpa using hx
    rcases this with rfl | rfl
    · clean_wf
      rfl
    · clean_wf
      rfl
  obtain ⟨l1, l2, l3, l4⟩ := lohi (a := a) (c := c) g p.1 q.1
  obtain ⟨k1, k2, k3, k4⟩ := lohi (a := b) (c := d) g p.2 q.2
  generalize lo a c h = lc at *
  generalize hi a c h = hc at *
  generalize lo b d h = lr at *
  generalize hi b d h = hr at *
  show SatE _ (runs _ [some (pt a b), some (pt c d), some (.int h), some (.int (sd h)), some (.list [.int lc, .int lr]), some (.list [.int hc, .int hr]), none, none, none, none]) _
  clean_wf
  rfl
/-- the word that the law has for a way -/
theorem lword_ok {a b c d : Int} (p : Pl a b) (q : Pl c d) (hne : ¬ (a = c ∧ b = d)) : m_law_word [pt a b, pt c d] = .ok (.str (bwS (c - a) (d - b))) := by
  refine defP_ok ?_
  unfold b_law_word
  show Sat (runs _ [some (pt a b), some (pt c d), none, none, none, none]) _
  obtain ⟨⟨p1, p2⟩, p3, p4⟩ := p
  obtain ⟨⟨q1, q2⟩, q3, q4⟩ := q
  clean_wf
  have hne' : ¬ (c - a = 0 ∧ d - b = 0) := by omega
  have bx : -240000 < c - a ∧ c - a < 240000 := by omega
  have by_ : -240000 < d - b ∧ d - b < 240000 := by omega
  generalize c - a = x at *
  generalize d - b = y at *
  have up : ∀ {u v : PyData} (z : Int) (Q : PyData → Prop), Q (if 0 < z then v else u) → SatE NoE (lft (S := Unit) (bltD .int_ [.bool (decide (0 < z))])) (fun i => SatE (S := Unit) NoE (lft (subD (.list [u, v]) i)) Q) := by
    intro u v z Q h
    by_cases hz : 0 < z
    · rw [decide_eq_true hz]
      refine sat_lft rfl ?_
      rw [if_pos hz] at h
      exact sat_atLc rfl h
    · rw [decide_eq_false hz]
      refine sat_lft rfl ?_
      rw [if_neg hz] at h
      exact sat_atLc rfl h
  refine up y _ ?_
  clean_wf
  refine up x _ ?_
  clean_wf
  refine if_dec (fun h1 => ?_) (fun h1 => ?_)
  · clean_wf
    have e : bwS x y = if 0 < x then ("e" : Str) else ("w" : Str) := by
      unfold bwS
      rw [if_neg (by omega), if_pos h1]
    rw [e]
    by_cases hx : 0 < x
    · rw [if_pos hx, if_pos hx]
    · rw [if_neg hx, if_neg hx]
  · clean_wf
    refine if_dec (fun h2 => ?_) (fun h2 => ?_)
    · clean_wf
      have e : bwS x y = if 0 < y then ("n" : Str) else ("s" : Str) := by
        unfold bwS
        rw [if_pos h2]
      rw [e]
      by_cases hy : 0 < y
      · rw [if_pos hy, if_pos hy]
      · rw [if_neg hy, if_neg hy]
    · clean_wf
      have fin : bwS x y = (if 0 < y then ("n" : Str) else ("s" : Str)) ++ (if 0 < x then ("e" : Str) else ("w" : Str)) := by
        unfold bwS
        rw [if_neg h2, if_neg h1]
        by_cases hy : 0 < y <;> by_cases hx : 0 < x <;> simp only [hx, hy, if_true, if_false]
        · exact cat_ne.1.symm
        · exact cat_ne.2.1.symm
        · exact cat_ne.2.2.1.symm
        · exact cat_ne.2.2.2.symm
      rw [fin]
      by_cases hy : 0 < y <;> by_cases hx : 0 < x <;> simp only [hx, hy, if_true, if_false] <;> (refine sat_addS (by decide +kernel) ?_; clean_wf; rfl)
end K13

set_option Elab.async false
set_option linter.all false
set_option maxRecDepth 100000
set_option maxHeartbeats 4000000

namespace K13
open PySem Mir
theorem eqv_t3 (a b c d e f : Int) : PyData.eqv (.tuple [.int a, .int b, .int c]) (.tuple [.int d, .int e, .int f]) = decide (a = d ∧ b = e ∧ c = f) := by
  simp only [PyData.eqv, PyData.eqvAll, Bool.and_true, Bool.decide_and, Bool.beq_eq_decide_eq]
theorem unit_at {h : Int} (g : 1 ≤ h ∧ h ≤ 4) : [PyData.int 1000, .int 100, .int 10, .int 1][(h - 1).toNat]? = some (.int (sd h)) := by
  rcases sd_cases g with ⟨rfl, e⟩ | ⟨rfl, e⟩ | ⟨rfl, e⟩ | ⟨rfl, e⟩ <;> rw [e] <;> rfl
theorem takes_ok {e n h : Int} (p : Pl e n) (g : 1 ≤ h ∧ h ≤ 4) (x y z : Int) : m_takes_square [.str (ref e n h), .int x, .int y, .int z] = .ok (.bool (decide (x = e / sd h * sd h ∧ y = n / sd h * sd h ∧ z = sd h))) := by
  refine defP_ok ?_
  unfold b_takes_square
  show Sat (runs _ [some (.str (ref e n h)), some (.int x), some (.int y), some (.int z), none, none, none, none, none, none]) _
  obtain ⟨⟨p1, p2⟩, p3, p4⟩ := p
  have hb := sd_b g
  unfold ref
  clean_wf
  have el : (((⟨(refL e n h).toArray⟩ : Str).length : Nat) : Int) = 2 + h + h := by rw [strL_len, refL_len]; omega
  rw [el]
  have : cmpD .NotIn (.int (2 + h + h)) (.tuple [.int 4, .int 6, .int 8, .int 10]) = .ok (.bool false) := by
    have : h = 1 ∨ h = 2 ∨ h = 3 ∨ h = 4 := by omega
    rcases this with rfl | rfl | rfl | rfl <;> rfl
  refine sat_lft this ?_
  clean_wf
  refine sat_lc (fun _ => some (.bool true)) ?_
  clean_wf
  refine sat_cutSh (by omega) (by rw [refL_len]; omega) ?_
  clean_wf
  refine sat_signS ?_
  refine ⟨fun x hx => ?_, ?_⟩
  · obtain ⟨c, hc, rfl⟩ := List.mem_map.mp hx
    have : ∃ k : Int, c = lt k ∧ 0 ≤ k ∧ k < 24 := by
      have hc : c ∈ [lt (e / 10000), lt (n / 10000)] := hc
      rcases List.mem_cons.mp hc with rfl | hc
      · exact ⟨_, rfl, by omega⟩
      · rcases List.mem_singleton.mp hc with rfl
        exact ⟨_, rfl, by omega⟩
    obtain ⟨k, rfl, k1, k2⟩ := this
    clean_wf
    refine let_in k1 k2 ?_
    clean_wf
    rfl
  clean_wf
  refine sat_lc (fun _ => some (.bool true)) ?_
  clean_wf
  refine sat_cutSl (by omega) (by rw [refL_len]; omega) ?_
  clean_wf
  refine sat_signS ?_
  refine ⟨fun x hx => ?_, ?_⟩
  · obtain ⟨c, hc, rfl⟩ := List.mem_map.mp hx
    have hc' : 48 ≤ c ∧ c ≤ 57 := by
      have : (refL e n h).drop (Int.toNat 2) = dgs h.toNat (e % 10000 / sd h).toNat ++ dgs h.toNat (n % 10000 / sd h).toNat := rfl
      rw [this] at hc
      rcases List.mem_append.mp hc with hc | hc <;> exact dgs_all _ _ _ hc
    clean_wf
    refine dig_in hc' ?_
    clean_wf
    rfl
  clean_wf
  rw [el, show (2 + h + h - 2) / 2 = h by omega]
  refine sat_atT (by omega) (unit_at g) ?_
  clean_wf
  refine sat_cutS (by omega) (by omega) (by rw [refL_len]; omega) ?_
  have e1 : ((refL e n h).drop (Int.toNat 2)).take ((2 + h).toNat - Int.toNat 2) = dgs h.toNat (e % 10000 / sd h).toNat := by
    show (dgs h.toNat (e % 10000 / sd h).toNat ++ dgs h.toNat (n % 10000 / sd h).toNat).take ((2 + h).toNat - 2) = _
    rw [show (2 + h).toNat - 2 = h.toNat by omega, List.take_append_of_le_length (by rw [dgs_len]; omega), List.take_of_length_le (by rw [dgs_len]; omega)]
  rw [e1]
  have hne : ∀ x, dgs h.toNat x ≠ [] := fun x q => by
    have := congrArg List.length q
    rw [dgs_len] at this
    simp at this
    omega
  clean_wf
  refine sat_intF (dgs_all _ _) (hne _) (by rw [dgs_len]; omega) (dgs_val _ _ (fig_lt (by omega) g)) ?_
  clean_wf
  refine sat_cutSl (by omega) (by rw [refL_len]; omega) ?_
  have e2 : (refL e n h).drop (2 + h).toNat = dgs h.toNat (n % 10000 / sd h).toNat := by
    rw [show (2 + h).toNat = h.toNat + 2 by omega]
    show (dgs h.toNat (e % 10000 / sd h).toNat ++ dgs h.toNat (n % 10000 / sd h).toNat).drop h.toNat = _
    rw [List.drop_append_of_le_length (by rw [dgs_len]; omega), List.drop_of_length_le (by rw [dgs_len]; omega)]
    rfl
  rw [e2]
  clean_wf
  refine sat_intF (dgs_all _ _) (hne _) (by rw [dgs_len]; omega) (dgs_val _ _ (fig_lt (by omega) g)) ?_
  clean_wf
  refine sat_atS (l := refL e n h) (i := 0) (by omega) rfl ?_
  clean_wf
  refine let_ix (by omega) (by omega) ?_
  clean_wf
  refine sat_atS (l := refL e n h) (i := 1) (by omega) rfl ?_
  clean_wf
  refine let_ix (by omega) (by omega) ?_
  clean_wf
  refine sat_eqT rfl rfl ?_
  have u1 : 10000 * (e / 10000) + sd h * ((e % 10000 / sd h).toNat : Int) = e / sd h * sd h := by
    rw [← sd_up g p1, Int.mul_comm 10000, Int.mul_comm (sd h)]
  have u2 : 10000 * (n / 10000) + sd h * ((n % 10000 / sd h).toNat : Int) = n / sd h * sd h := by
    rw [← sd_up g p3, Int.mul_comm 10000, Int.mul_comm (sd h)]
  rw [u1, u2, eqv_t3]
  clean_wf
  rfl
theorem range3_ok {i j s : Int} (hs : 1 ≤ s ∧ s ≤ 1000) (h0 : 0 ≤ i) (h1 : i < j) (h2 : j ≤ 240000) : range3D i j s = .ok ((List.range ((j - i - 1) / s + 1).toNat).map fun (k : Nat) => PyData.int (i + (k : Int) * s)) := by
  have d0 : 0 ≤ (j - i - 1) / s := Int.ediv_nonneg (by omega) (by omega)
  have d1 : (j - i - 1) / s ≤ j - i - 1 := Int.ediv_le_self _ (by omega)
  have e : Builtin.Range.rangeSize i j s = (j - i - 1) / s + 1 := by
    unfold Builtin.Range.rangeSize
    rw [if_pos (show s > 0 by omega), if_pos h1]
  have hsm : Builtin.Range.small i j s = true := by
    unfold Builtin.Range.small
    rw [e]
    have w : ((j - i - 1) / s + 1) * s ≤ 240000 + 1000 := by
      rw [Int.add_mul, Int.one_mul]
      have := Int.ediv_mul_le (j - i - 1) (b := s) (by omega)
      omega
    have w0 : 0 ≤ ((j - i - 1) / s + 1) * s := Int.mul_nonneg (by omega) (by omega)
    simp only [Builtin.Range.rangeFitsLong, Bool.and_eq_true, Bool.or_eq_true, decide_eq_true_eq, beq_iff_eq, show s > 0 by omega, if_true]
    omega
  unfold range3D
  rw [if_pos ⟨by omega, by omega, hsm, by rw [e]; omega, by rw [e]; show _ ≤ (2 ^ 24 : Int); omega⟩, e]
theorem fm_congr {α β : Type} {f g : α → Option β} : ∀ l : List α, (∀ x ∈ l, f x = g x) → l.filterMap f = l.filterMap g
  | [], _ => rfl
  | x :: l, h => by rw [List.filterMap_cons, List.filterMap_cons, h x (.head _), fm_congr l fun y hy => h y (.tail _ hy)]
theorem between_ok {a b c d h : Int} (p : Pl a b) (q : Pl c d) (g : 1 ≤ h ∧ h ≤ 4) (hm : (hi a c h - lo a c h + 1) * (hi b d h - lo b d h + 1) ≤ 400) :
    m_law_between [pt a b, pt c d, .int h] = .ok (.list (rws (lo a c h) (lo b d h) (hi a c h - lo a c h + 1).toNat (hi b d h - lo b d h + 1).toNat h)) := by
  refine defP_ok ?_
  unfold b_law_between
  show Sat (runs _ [some (pt a b), some (pt c d), some (.int h), none, none, none, none, none, none]) _
  have hb := sd_b g
  have geo : ∀ u v : Int, 0 ≤ u ∧ u < 240000 → 0 ≤ v ∧ v < 240000 → (if v < u then v else u) / sd h * sd h = lo u v h * sd h ∧ 0 ≤ lo u v h * sd h ∧ lo u v h * sd h < (if v > u then v else u) + 1 ∧ (if v > u then v else u) + 1 ≤ 240000 ∧ ((if v > u then v else u) + 1 - lo u v h * sd h - 1) / sd h + 1 = hi u v h - lo u v h + 1 := by
    intro u v hu hv
    unfold lo hi
    rcases sd_cases g with ⟨rfl, y⟩ | ⟨rfl, y⟩ | ⟨rfl, y⟩ | ⟨rfl, y⟩ <;> rw [y] <;> refine ⟨rfl, ?_, ?_, ?_, ?_⟩ <;> omega
  obtain ⟨x1, x2, x3, x4, x5⟩ := geo a c p.1 q.1
  obtain ⟨y1, y2, y3, y4, y5⟩ := geo b d p.2 q.2
  obtain ⟨l1, l2, l3, l4⟩ := lohi (a := a) (c := c) g p.1 q.1
  obtain ⟨k1, k2, k3, k4⟩ := lohi (a := b) (c := d) g p.2 q.2
  clean_wf
  refine sat_atL (by omega) (unit_at g) ?_
  clean_wf
  rw [x1, y1]
  refine sat_for (fun _ k ρ => ∃ o : Option PyData, ρ = [some (pt a b), some (pt c d), some (.int h), some (.int (sd h)), some (.list ((List.range (k * (hi a c h - lo a c h + 1).toNat)).map (fk (lo a c h) (lo b d h) (hi a c h - lo a c h + 1).toNat h))), some (.int (lo a c h * sd h)), some (.int (lo b d h * sd h)), o, none]) ?_
  have rx := range3_ok (s := sd h) hb x2 x3 x4
  have ry := range3_ok (s := sd h) hb y2 y3 y4
  rw [x5] at rx
  rw [y5] at ry
  have hnc : ((hi a c h - lo a c h + 1).toNat : Int) = hi a c h - lo a c h + 1 := by omega
  have hnr : ((hi b d h - lo b d h + 1).toNat : Int) = hi b d h - lo b d h + 1 := by omega
  have hm2 : (hi a c h - lo a c h + 1).toNat * (hi b d h - lo b d h + 1).toNat ≤ 400 := by
    have : (((hi a c h - lo a c h + 1).toNat * (hi b d h - lo b d h + 1).toNat : Nat) : Int) ≤ 400 := by
      rw [Int.natCast_mul, hnc, hnr]; exact hm
    omega
  clean_wf
  refine ⟨_, _, _, rfl, rfl, rfl, _, ry, ⟨none, ?_⟩, ?_, ?_⟩
  · rw [Nat.zero_mul]; rfl
  · intro k hk ρ ⟨o, hρ⟩
    rw [List.length_map, List.length_range] at hk
    rw [List.getElem_map, List.getElem_range]
    subst hρ
    generalize (hi a c h - lo a c h + 1).toNat = nc at *
    generalize (hi b d h - lo b d h + 1).toNat = nr at *
    have hkn : k * nc + nc ≤ nr * nc := by
      have := Nat.mul_le_mul_right nc hk
      rw [Nat.succ_mul] at this
      exact this
    rw [Nat.mul_comm nc nr] at hm2
    obtain ⟨v1, v2⟩ := k4 (lo b d h + k) (by omega) (by omega)
    rw [← Int.add_mul]
    clean_wf
    refine sat_lc (fun x => match x with
      | .int i => some (.str (ref i ((lo b d h + (k : Int)) * sd h) h))
      | _ => none) ?_
    clean_wf
    refine ⟨_, _, _, rfl, rfl, rfl, _, rx, ?_, ?_⟩
    · intro x hx
      obtain ⟨j, hj, rfl⟩ := List.mem_map.mp hx
      have hj := List.mem_range.mp hj
      obtain ⟨u1, u2⟩ := l4 (lo a c h + j) (by omega) (by omega)
      rw [Int.add_mul] at u1 u2
      clean_wf
      refine sat_call_ok (lref_ok ⟨⟨u1, u2⟩, v1, v2⟩ g) ?_
      clean_wf
      rfl
    · have e1 : ((List.range nc).map fun (j : Nat) => PyData.int (lo a c h * sd h + (j : Int) * sd h)).filterMap (fun x => match x with
          | .int i => some (PyData.str (ref i ((lo b d h + (k : Int)) * sd h) h))
          | _ => none) = (List.range nc).map fun j => fk (lo a c h) (lo b d h) nc h (k * nc + j) := by
        rw [List.filterMap_map, ← List.filterMap_eq_map]
        refine fm_congr _ fun j hj => ?_
        have hj := List.mem_range.mp hj
        show some (PyData.str (ref (lo a c h * sd h + (j : Int) * sd h) _ h)) = some (fk _ _ nc h (k * nc + j))
        unfold fk
        have m1 : (k * nc + j) % nc = j := by rw [Nat.mul_comm, Nat.mul_add_mod, Nat.mod_eq_of_lt hj]
        have m2 : (k * nc + j) / nc = k := by rw [Nat.mul_comm, Nat.mul_add_div (by omega), Nat.div_eq_of_lt hj, Nat.add_zero]
        rw [m1, m2, ← Int.add_mul]
      rw [e1]
      refine sat_addL (by simp only [List.length_map, List.length_range]; show _ ≤ 2 ^ 24; omega) ?_
      clean_wf
      refine ⟨some (.int ((lo b d h + (k : Int)) * sd h)), ?_⟩
      have e2 : (List.range ((k + 1) * nc)).map (fk (lo a c h) (lo b d h) nc h) = (List.range (k * nc)).map (fk (lo a c h) (lo b d h) nc h) ++ (List.range nc).map fun j => fk (lo a c h) (lo b d h) nc h (k * nc + j) := by
        rw [Nat.succ_mul, List.range_add, List.map_append, List.map_map]
        rfl
      rw [e2]
      rfl
  · intro ρ ⟨o, hρ⟩
    rw [List.length_map, List.length_range] at hρ
    subst hρ
    clean_wf
    rfl
end K13

set_option Elab.async false
set_option linter.all false
set_option maxRecDepth 100000
set_option maxHeartbeats 4000000

namespace K13
open PySem Mir
abbrev RF13 : PyData := .list [.bool true, .bool false, .bool false, .bool false, .bool false]
abbrev NA13 : PyData := .list [.bool false, .bool false, .bool true, .bool false, .bool false]
abbrev LG13 : PyData := .list [.bool false, .bool false, .bool false, .bool true, .bool false]
def L0 : St (List Int) := (.par [2, 3, 4] [false, false, false] false (.cons (.lst (.cons (.bl true) (.cons (.bl false) (.cons (.bl false) (.cons (.bl false) (.cons (.bl false) .nil)))))) (.cons (.lst (.cons (.bl false) (.cons (.bl false) (.cons (.bl true) (.cons (.bl false) (.cons (.bl false) .nil)))))) (.cons (.lst (.cons (.bl false) (.cons (.bl false) (.cons (.bl false) (.cons (.bl true) (.cons (.bl false) .nil)))))) .nil))))
def L1_0 : St (List Int) := (.par [6, 7] [false, false] false (.cons (.callS ("_law_point" : Str) m_law_point .nil) (.cons (.callS ("_law_pick" : Str) m_law_pick (.cons (.lst (.cons (.int 2) (.cons (.int 30) (.cons (.int 900) (.cons (.int 30000) .nil))))) .nil)) .nil)))
def L1_1 : St (List Int) := (.par [8, 9, 10] [false, false, false] false (.cons (.callS ("_law_near" : Str) m_law_near (.cons (.v 6) (.cons (.v 7) .nil))) (.cons (.bin .Add (.int 1) (.callS ("_law_take" : Str) m_law_take (.cons (.int 4) .nil))) (.cons (.bin .Add (.int 1) (.callS ("_law_take" : Str) m_law_take (.cons (.int 4) .nil))) .nil))))
def L1_2 : St (List Int) := (.par [11, 12] [false, false] false (.cons (.call ("_law_reference" : Str) m_law_reference (.cons (.v 6) (.cons (.v 9) .nil))) (.cons (.call ("_law_reference" : Str) m_law_reference (.cons (.v 8) (.cons (.v 10) .nil))) .nil)))
def L1_3 : St (List Int) := (.par [13, 14] [false, false] false (.cons (.call ("_law_square" : Str) m_law_square (.cons (.v 11) .nil)) (.cons (.call ("_law_square" : Str) m_law_square (.cons (.v 12) .nil)) .nil)))
def L1_4 : St (List Int) := (.set 15 false false (.cmp .Eq (.lc (.v 22) (.nm 22) (.of (.lst (.cons (.int 0) (.cons (.int 1) .nil)))) (.or_ (.cmp .Gt (.sub (.v 13) (.v 22)) (.bin .Add (.sub (.v 14) (.v 22)) (.sub (.v 14) (.int 2)))) (.one (.cmp .Gt (.sub (.v 14) (.v 22)) (.bin .Add (.sub (.v 13) (.v 22)) (.sub (.v 13) (.int 2)))))) [(("k" : Str), 22)]) (.lst .nil)))
def L1_5 : St (List Int) := (.set 16 false false (.lc (.call ("_law_reference" : Str) m_law_reference (.cons (.v 6) (.cons (.v 22) .nil))) (.nm 22) (.range3 (.int 4) (.int 0) (.neg (.int 1))) (.cmp .Eq (.call ("_law_reference" : Str) m_law_reference (.cons (.v 6) (.cons (.v 22) .nil))) (.call ("_law_reference" : Str) m_law_reference (.cons (.v 8) (.cons (.v 22) .nil)))) [(("k" : Str), 22)]))
def L1_6 : St (List Int) := (.set 17 false false (.lst (.cons (.call ("_law_told" : Str) m_law_told (.cons (.int 2) (.cons (.tup (.cons (.v 6) (.cons (.v 9) .nil))) .nil))) (.cons (.call ("_law_told" : Str) m_law_told (.cons (.int 0) (.cons (.tup (.cons (.v 11) .nil)) .nil))) (.cons (.call ("_law_told" : Str) m_law_told (.cons (.int 3) (.cons (.tup (.cons (.v 11) (.cons (.v 6) .nil))) .nil))) (.cons (.call ("_law_told" : Str) m_law_told (.cons (.int 3) (.cons (.tup (.cons (.v 12) (.cons (.v 6) .nil))) .nil))) (.cons (.call ("_law_told" : Str) m_law_told (.cons (.int 4) (.cons (.tup (.cons (.v 11) (.cons (.v 12) .nil))) .nil))) (.cons (.call ("_law_told" : Str) m_law_told (.cons (.int 9) (.cons (.tup (.cons (.v 6) (.cons (.v 8) .nil))) .nil))) .nil))))))))
def L1_7 : St (List Int) := (.ite (.not_ (.call ("_law_same" : Str) (m_law_same 12) (.cons (.v 17) (.cons (.lst (.cons (.v 11) (.cons (.v 13) (.cons (.bl true) (.cons (.and_ (.chain .LtE .Lt (.sub (.v 14) (.int 0)) (.sub (.v 6) (.int 0)) (.bin .Add (.sub (.v 14) (.int 0)) (.sub (.v 14) (.int 2)))) (.one (.chain .LtE .Lt (.sub (.v 14) (.int 1)) (.sub (.v 6) (.int 1)) (.bin .Add (.sub (.v 14) (.int 1)) (.sub (.v 14) (.int 2)))))) (.cons (.v 15) (.cons (.sub (.bin .Add (.v 16) (.lst (.cons .non .nil))) (.int 0)) .nil))))))) .nil)))) (.cons (.ret (.bl false)) .nil) .nil)
def L1_8 : St (List Int) := (.set 7 false false (.bin .Add (.bin .Mult (.bin .Sub (.sub (.v 6) (.int 0)) (.sub (.v 8) (.int 0))) (.bin .Sub (.sub (.v 6) (.int 0)) (.sub (.v 8) (.int 0)))) (.bin .Mult (.bin .Sub (.sub (.v 6) (.int 1)) (.sub (.v 8) (.int 1))) (.bin .Sub (.sub (.v 6) (.int 1)) (.sub (.v 8) (.int 1))))))
def L1_9 : St (List Int) := (.set 18 false false (.v 2))
def L1_10 : St (List Int) := (.ite (.cmp .NotEq (.v 6) (.v 8)) (.cons (.set 18 false false (.call ("_law_word" : Str) m_law_word (.cons (.v 6) (.cons (.v 8) .nil)))) .nil) .nil)
def L1_11 : St (List Int) := (.ite (.not_ (.call ("_law_same" : Str) (m_law_same 12) (.cons (.lst (.cons (.call ("_law_told" : Str) m_law_told (.cons (.int 6) (.cons (.tup (.cons (.v 6) (.cons (.v 8) .nil))) .nil))) (.cons (.call ("_law_told" : Str) m_law_told (.cons (.int 7) (.cons (.tup (.cons (.v 6) (.cons (.v 8) .nil))) .nil))) (.cons (.call ("is_point" : Str) m_is_point (.cons (.v 6) .nil)) (.cons (.call ("is_reference" : Str) m_is_reference (.cons (.v 11) .nil)) .nil))))) (.cons (.lst (.cons (.v 7) (.cons (.v 18) (.cons (.bl true) (.cons (.bl true) .nil))))) .nil)))) (.cons (.ret (.bl false)) .nil) .nil)
def L1_12 : St (List Int) := (.set 19 false false (.v 2))
def L1_13 : St (List Int) := (.ite (.cmp .LtE (.v 10) (.v 9)) (.cons (.set 19 false false (.call ("_law_reference" : Str) m_law_reference (.cons (.v 6) (.cons (.v 10) .nil)))) .nil) .nil)
def L1_14 : St (List Int) := (.set 20 false false (.lst (.cons (.call ("takes_square" : Str) m_takes_square (.cons (.v 11) (.cons (.sub (.v 13) (.int 0)) (.cons (.sub (.v 13) (.int 1)) (.cons (.sub (.v 13) (.int 2)) .nil))))) (.cons (.call ("takes_square" : Str) m_takes_square (.cons (.v 11) (.cons (.bin .Add (.sub (.v 13) (.int 0)) (.int 1)) (.cons (.sub (.v 13) (.int 1)) (.cons (.sub (.v 13) (.int 2)) .nil))))) (.cons (.call ("takes_square" : Str) m_takes_square (.cons (.v 11) (.cons (.sub (.v 13) (.int 0)) (.cons (.sub (.v 13) (.int 1)) (.cons (.bin .Mult (.int 10) (.sub (.v 13) (.int 2))) .nil))))) .nil)))))
def L1_15 : St (List Int) := (.ite (.not_ (.call ("_law_same" : Str) (m_law_same 12) (.cons (.bin .Add (.lst (.cons (.call ("_law_told" : Str) m_law_told (.cons (.int 5) (.cons (.tup (.cons (.v 11) (.cons (.v 10) .nil))) .nil))) .nil)) (.v 20)) (.cons (.lst (.cons (.v 19) (.cons (.bl true) (.cons (.bl false) (.cons (.bl false) .nil))))) .nil)))) (.cons (.ret (.bl false)) .nil) .nil)
def L1_16 : St (List Int) := (.par [21, 22] [false, false] false (.cons (.callS ("_law_near" : Str) m_law_near (.cons (.v 6) (.cons (.callS ("_law_pick" : Str) m_law_pick (.cons (.lst (.cons (.int 3) (.cons (.int 40) (.cons (.int 900) .nil)))) .nil)) .nil))) (.cons (.bin .Add (.int 1) (.callS ("_law_take" : Str) m_law_take (.cons (.int 4) .nil))) .nil)))
def L1_17 : St (List Int) := (.set 23 false false (.sub (.lst (.cons (.int 1000) (.cons (.int 100) (.cons (.int 10) (.cons (.int 1) .nil))))) (.bin .Sub (.v 22) (.int 1))))
def L1_18 : St (List Int) := (.set 24 false false (.bin .Mult (.bin .Add (.blt .abs (.cons (.bin .Sub (.bin .FloorDiv (.sub (.v 6) (.int 0)) (.v 23)) (.bin .FloorDiv (.sub (.v 21) (.int 0)) (.v 23))) .nil)) (.int 1)) (.bin .Add (.blt .abs (.cons (.bin .Sub (.bin .FloorDiv (.sub (.v 6) (.int 1)) (.v 23)) (.bin .FloorDiv (.sub (.v 21) (.int 1)) (.v 23))) .nil)) (.int 1))))
def L1_19 : St (List Int) := (.set 19 false false (.v 4))
def L1_20 : St (List Int) := (.ite (.cmp .Lt (.v 24) (.int 401)) (.cons (.set 19 false false (.call ("_law_between" : Str) m_law_between (.cons (.v 6) (.cons (.v 21) (.cons (.v 22) .nil))))) .nil) .nil)
def L1_21 : St (List Int) := (.ite (.not_ (.call ("_law_same" : Str) (m_law_same 12) (.cons (.call ("_law_told" : Str) m_law_told (.cons (.int 10) (.cons (.tup (.cons (.v 6) (.cons (.v 21) (.cons (.v 22) .nil)))) .nil))) (.cons (.v 19) .nil)))) (.cons (.ret (.bl false)) .nil) .nil)
def L1_22 : St (List Int) := (.set 25 false false (.lc (.callS ("_law_near" : Str) m_law_near (.cons (.v 6) (.cons (.int 9) .nil))) (.nm 36) (.range1 (.bin .Add (.int 1) (.callS ("_law_take" : Str) m_law_take (.cons (.int 6) .nil)))) (.bl true) [(("step" : Str), 36)]))
def L1_23 : St (List Int) := (.set 26 false false (.lc (.bin .Add (.bin .Mult (.bin .Sub (.sub (.v 37) (.int 0)) (.sub (.v 8) (.int 0))) (.bin .Sub (.sub (.v 37) (.int 0)) (.sub (.v 8) (.int 0)))) (.bin .Mult (.bin .Sub (.sub (.v 37) (.int 1)) (.sub (.v 8) (.int 1))) (.bin .Sub (.sub (.v 37) (.int 1)) (.sub (.v 8) (.int 1))))) (.nm 37) (.of (.v 25)) (.bl true) [(("point" : Str), 37)]))
def L1_24 : St (List Int) := (.set 27 false false (.tup (.cons (.bin .FloorDiv (.blt .sum (.cons (.lc (.sub (.v 37) (.int 0)) (.nm 37) (.of (.v 25)) (.bl true) [(("point" : Str), 37)]) .nil)) (.blt .len (.cons (.v 25) .nil))) (.cons (.bin .FloorDiv (.blt .sum (.cons (.lc (.sub (.v 37) (.int 1)) (.nm 37) (.of (.v 25)) (.bl true) [(("point" : Str), 37)]) .nil)) (.blt .len (.cons (.v 25) .nil))) .nil))))
def L1_25 : St (List Int) := (.par [28, 29] [false, false] false (.cons (.bin .Sub (.callS ("_law_take" : Str) m_law_take (.cons (.int 600) .nil)) (.int 300)) (.cons (.bin .Sub (.callS ("_law_take" : Str) m_law_take (.cons (.int 600) .nil)) (.int 300)) .nil)))
def L1_26 : St (List Int) := (.set 30 false false (.tup (.cons (.bin .Add (.sub (.v 6) (.int 0)) (.v 28)) (.cons (.bin .Add (.sub (.v 6) (.int 1)) (.v 29)) .nil))))
def L1_27 : St (List Int) := (.ite (.or_ (.cmp .Lt (.blt .min1 (.cons (.v 30) .nil)) (.int 0)) (.one (.cmp .Gt (.blt .max1 (.cons (.v 30) .nil)) (.int 239999)))) (.cons (.set 30 false false (.v 3)) .nil) .nil)
def L1_28 : St (List Int) := (.ite (.not_ (.call ("_law_same" : Str) (m_law_same 12) (.cons (.lst (.cons (.call ("_law_told" : Str) m_law_told (.cons (.int 8) (.cons (.tup (.cons (.v 8) (.cons (.blt .list_ (.cons (.v 25) .nil)) .nil))) .nil))) (.cons (.call ("_law_told" : Str) m_law_told (.cons (.int 1) (.cons (.tup (.cons (.blt .list_ (.cons (.v 25) .nil)) .nil)) .nil))) (.cons (.call ("_law_told" : Str) m_law_told (.cons (.int 11) (.cons (.tup (.cons (.v 6) (.cons (.v 28) (.cons (.v 29) .nil)))) .nil))) .nil)))) (.cons (.lst (.cons (.op2 .lindex (.v 26) (.blt .min1 (.cons (.v 26) .nil))) (.cons (.v 27) (.cons (.v 30) .nil)))) .nil)))) (.cons (.ret (.bl false)) .nil) .nil)
def L1_29 : St (List Int) := (.par [31, 32] [false, false] false (.cons (.callS ("_law_pick" : Str) m_law_pick (.cons (.lst (.cons .non (.cons (.str ("" : Str)) (.cons (.str ("AB1" : Str)) (.cons (.str ("AI12" : Str)) (.cons (.str ("OA12" : Str)) (.cons (.str ("ab12" : Str)) (.cons (.str ("AB123456789" : Str)) (.cons (.str ("AB1x" : Str)) (.cons (.int 5) .nil)))))))))) .nil)) (.cons (.callS ("_law_pick" : Str) m_law_pick (.cons (.lst (.cons .non (.cons (.tup (.cons (.int 0) .nil)) (.cons (.tup (.cons (.neg (.int 1)) (.cons (.int 0) .nil))) (.cons (.tup (.cons (.int 0) (.cons (.int 240000) .nil))) (.cons (.tup (.cons (.bl true) (.cons (.int 0) .nil))) (.cons (.lst (.cons (.int 0) (.cons (.int 0) .nil))) .nil))))))) .nil)) .nil)))
def L1_30 : St (List Int) := (.par [33, 34] [false, false] false (.cons (.callS ("_law_pick" : Str) m_law_pick (.cons (.lst (.cons (.int 0) (.cons (.int 5) (.cons .non (.cons (.bl true) .nil))))) .nil)) (.cons (.callS ("_law_pick" : Str) m_law_pick (.cons (.lst (.cons .non (.cons (.lst .nil) (.cons (.tup (.cons (.v 6) .nil)) (.cons (.lst (.cons (.v 32) .nil)) .nil))))) .nil)) .nil)))
def L1_31 : St (List Int) := (.set 35 false false (.lst (.cons (.tup (.cons (.int 0) (.cons (.tup (.cons (.v 31) .nil)) .nil))) (.cons (.tup (.cons (.int 1) (.cons (.tup (.cons (.v 34) .nil)) .nil))) (.cons (.tup (.cons (.int 2) (.cons (.tup (.cons (.v 32) (.cons (.int 1) .nil))) .nil))) (.cons (.tup (.cons (.int 2) (.cons (.tup (.cons (.v 6) (.cons (.v 33) .nil))) .nil))) (.cons (.tup (.cons (.int 3) (.cons (.tup (.cons (.v 31) (.cons (.v 6) .nil))) .nil))) (.cons (.tup (.cons (.int 3) (.cons (.tup (.cons (.v 11) (.cons (.v 32) .nil))) .nil))) (.cons (.tup (.cons (.int 4) (.cons (.tup (.cons (.v 31) (.cons (.v 11) .nil))) .nil))) .nil)))))))))
def L1_32 : St (List Int) := (.set 35 false false (.bin .Add (.v 35) (.lst (.cons (.tup (.cons (.int 4) (.cons (.tup (.cons (.v 11) (.cons (.v 31) .nil))) .nil))) (.cons (.tup (.cons (.int 5) (.cons (.tup (.cons (.v 31) (.cons (.int 1) .nil))) .nil))) (.cons (.tup (.cons (.int 5) (.cons (.tup (.cons (.v 11) (.cons (.v 33) .nil))) .nil))) (.cons (.tup (.cons (.int 6) (.cons (.tup (.cons (.v 32) (.cons (.v 6) .nil))) .nil))) (.cons (.tup (.cons (.int 6) (.cons (.tup (.cons (.v 6) (.cons (.v 32) .nil))) .nil))) (.cons (.tup (.cons (.int 7) (.cons (.tup (.cons (.v 32) (.cons (.v 6) .nil))) .nil))) (.cons (.tup (.cons (.int 7) (.cons (.tup (.cons (.v 6) (.cons (.v 32) .nil))) .nil))) .nil))))))))))
def L1_33 : St (List Int) := (.set 35 false false (.bin .Add (.v 35) (.lst (.cons (.tup (.cons (.int 8) (.cons (.tup (.cons (.v 32) (.cons (.lst (.cons (.v 6) .nil)) .nil))) .nil))) (.cons (.tup (.cons (.int 8) (.cons (.tup (.cons (.v 6) (.cons (.v 34) .nil))) .nil))) (.cons (.tup (.cons (.int 9) (.cons (.tup (.cons (.v 32) (.cons (.v 6) .nil))) .nil))) (.cons (.tup (.cons (.int 9) (.cons (.tup (.cons (.v 6) (.cons (.v 32) .nil))) .nil))) (.cons (.tup (.cons (.int 10) (.cons (.tup (.cons (.v 32) (.cons (.v 6) (.cons (.int 1) .nil)))) .nil))) .nil))))))))
def L1_34 : St (List Int) := (.set 35 false false (.bin .Add (.v 35) (.lst (.cons (.tup (.cons (.int 10) (.cons (.tup (.cons (.v 6) (.cons (.v 32) (.cons (.int 1) .nil)))) .nil))) (.cons (.tup (.cons (.int 10) (.cons (.tup (.cons (.v 6) (.cons (.v 6) (.cons (.v 33) .nil)))) .nil))) (.cons (.tup (.cons (.int 11) (.cons (.tup (.cons (.v 32) (.cons (.int 0) (.cons (.int 0) .nil)))) .nil))) (.cons (.tup (.cons (.int 11) (.cons (.tup (.cons (.v 6) (.cons .non (.cons (.int 0) .nil)))) .nil))) (.cons (.tup (.cons (.int 11) (.cons (.tup (.cons (.v 6) (.cons (.int 0) (.cons (.bl true) .nil)))) .nil))) .nil))))))))
def L1_35 : St (List Int) := (.ite (.not_ (.call ("_law_same" : Str) (m_law_same 12) (.cons (.bin .Add (.lc (.call ("_law_told" : Str) m_law_told (.cons (.v 38) (.cons (.v 39) .nil))) (.tup [38, 39]) (.of (.v 35)) (.bl true) [(("which" : Str), 38), (("args" : Str), 39)]) (.lst (.cons (.call ("is_reference" : Str) m_is_reference (.cons (.v 31) .nil)) (.cons (.call ("is_point" : Str) m_is_point (.cons (.v 32) .nil)) .nil)))) (.cons (.bin .Add (.bin .Mult (.lst (.cons (.v 2) .nil)) (.int 24)) (.lst (.cons (.bl false) (.cons (.bl false) .nil)))) .nil)))) (.cons (.ret (.bl false)) .nil) .nil)
def L1 : St (List Int) := (.for_ [] (.nm 5) (.range1 (.int 6)) (.cons L1_0 (.cons L1_1 (.cons L1_2 (.cons L1_3 (.cons L1_4 (.cons L1_5 (.cons L1_6 (.cons L1_7 (.cons L1_8 (.cons L1_9 (.cons L1_10 (.cons L1_11 (.cons L1_12 (.cons L1_13 (.cons L1_14 (.cons L1_15 (.cons L1_16 (.cons L1_17 (.cons L1_18 (.cons L1_19 (.cons L1_20 (.cons L1_21 (.cons L1_22 (.cons L1_23 (.cons L1_24 (.cons L1_25 (.cons L1_26 (.cons L1_27 (.cons L1_28 (.cons L1_29 (.cons L1_30 (.cons L1_31 (.cons L1_32 (.cons L1_33 (.cons L1_34 (.cons L1_35 .nil)))))))))))))))))))))))))))))))))))))
def L2 : St (List Int) := (.set 17 false false (.lst (.cons (.call ("reference_of" : Str) m_reference_of (.cons (.tup (.cons (.int 12345) (.cons (.int 6789) .nil))) (.cons (.int 3) .nil))) (.cons (.call ("square_of" : Str) m_square_of (.cons (.str ("BA2367" : Str)) .nil)) (.cons (.call ("do_touch" : Str) m_do_touch (.cons (.str ("BA26" : Str)) (.cons (.str ("BA36" : Str)) .nil))) (.cons (.call ("shortened_reference" : Str) m_shortened_reference (.cons (.str ("BA2367" : Str)) (.cons (.int 1) .nil))) (.cons (.call ("squares_between" : Str) m_squares_between (.cons (.tup (.cons (.int 12345) (.cons (.int 6789) .nil))) (.cons (.tup (.cons (.int 13100) (.cons (.int 6900) .nil))) (.cons (.int 1) .nil)))) .nil)))))))
def L3 : St (List Int) := (.set 17 false false (.bin .Add (.v 17) (.lst (.cons (.call ("bearing_word" : Str) m_bearing_word (.cons (.tup (.cons (.int 0) (.cons (.int 0) .nil))) (.cons (.tup (.cons (.int 10) (.cons (.int 5) .nil))) .nil))) (.cons (.call ("bearing_word" : Str) m_bearing_word (.cons (.tup (.cons (.int 0) (.cons (.int 0) .nil))) (.cons (.tup (.cons (.int 10) (.cons (.int 6) .nil))) .nil))) (.cons (.call ("common_reference" : Str) m_common_reference (.cons (.tup (.cons (.int 12345) (.cons (.int 6789) .nil))) (.cons (.tup (.cons (.int 12399) (.cons (.int 6701) .nil))) .nil))) (.cons (.call ("common_reference" : Str) m_common_reference (.cons (.tup (.cons (.int 9999) (.cons (.int 0) .nil))) (.cons (.tup (.cons (.int 10000) (.cons (.int 0) .nil))) .nil))) .nil)))))))
def L4 : St (List Int) := (.ret (.call ("_law_same" : Str) (m_law_same 12) (.cons (.v 17) (.cons (.lst (.cons (.str ("BA234678" : Str)) (.cons (.tup (.cons (.int 12300) (.cons (.int 6700) (.cons (.int 100) .nil)))) (.cons (.bl true) (.cons (.str ("BA26" : Str)) (.cons (.lst (.cons (.str ("BA26" : Str)) (.cons (.str ("BA36" : Str)) .nil))) (.cons (.str ("e" : Str)) (.cons (.str ("ne" : Str)) (.cons (.str ("BA2367" : Str)) (.cons .non .nil)))))))))) .nil))))
theorem Leq : b_law = (.cons L0 (.cons L1 (.cons L2 (.cons L3 (.cons L4 .nil))))) := rfl

theorem hd_self {e n k : Int} (p : Pl e n) (g : 1 ≤ k ∧ k ≤ 4) : Hd e n k e n := by
  unfold Hd
  rcases sd_cases g with ⟨rfl, y⟩ | ⟨rfl, y⟩ | ⟨rfl, y⟩ | ⟨rfl, y⟩ <;> rw [y] <;> omega
/-- what two points have in common, as a value -/
def cmV (a b c d : Int) : PyData := match cmR a b c d with
  | some h => .str (ref a b h)
  | none => .none
theorem common_okV {a b c d : Int} (p : Pl a b) (q : Pl c d) : m_common_reference [pt a b, pt c d] = .ok (cmV a b c d) := common_ok p q
def SM (a b c d : Int) : List PyData := [PyData.int 4, .int 3, .int 2, .int 1].filterMap fun x => match x with
  | .int k => if ref a b k = ref c d k then some (.str (ref a b k)) else none
  | _ => none
theorem SM_len (a b c d : Int) : (SM a b c d).length ≤ 4 := by
  unfold SM
  exact Nat.le_trans (List.length_filterMap_le _ _) (by decide)
theorem SM_first (a b c d : Int) : (SM a b c d ++ [PyData.none])[0]? = some (cmV a b c d) := by
  unfold SM cmV cmR
  by_cases e4 : ref a b 4 = ref c d 4 <;> by_cases e3 : ref a b 3 = ref c d 3 <;> by_cases e2 : ref a b 2 = ref c d 2 <;> by_cases e1 : ref a b 1 = ref c d 1 <;>
    simp only [List.filterMap_cons, List.filterMap_nil, e1, e2, e3, e4, if_true, if_false, List.cons_append, List.nil_append, List.getElem?_cons_zero]
theorem same_none (n : Nat) : m_law_same (n + 1) [.none, .none] = .ok (.bool true) := by
  refine defP_ok ?_
  unfold b_law_same
  show Sat (runs _ [some .none, some .none, none, none]) _
  clean_wf
  rfl
theorem same_cmV (n : Nat) (a b c d : Int) : m_law_same (n + 1) [cmV a b c d, cmV a b c d] = .ok (.bool true) := by
  unfold cmV
  cases cmR a b c d with
  | none => exact same_none n
  | some h => exact same_str n _
theorem same_sq (n : Nat) (a b h : Int) : m_law_same (n + 2) [sq a b h, sq a b h] = .ok (.bool true) := same_tuple (n + 1) _ (by simp) fun x hx => by
  simp only [List.mem_cons, List.not_mem_nil, or_false] at hx
  rcases hx with rfl | rfl | rfl <;> exact same_int n _
section
variable {o5 o6 o7 o8 o9 o10 o11 o12 o13 o14 o15 o16 o17 o18 o19 o20 o21 o22 o23 o24 o25 o26 o27 o28 o29 o30 o31 o32 o33 o34 o35 : Option PyData} {F : Fl → Prop} {R : Sts (List Int)} {a b c d h m : Int}
theorem t4 (pl : Pl a b) (q : Pl c d) (g : 1 ≤ h ∧ h ≤ 4) (gm : 1 ≤ m ∧ m ≤ 4) (hF : F (.nx (none :: none :: some RF13 :: some NA13 :: some LG13 :: o5 :: o6 :: o7 :: o8 :: o9 :: o10 :: o11 :: o12 :: some (sq a b h) :: some (sq c d m) :: some (.bool (decide (Tch a b h c d m))) :: o16 :: o17 :: o18 :: o19 :: o20 :: o21 :: o22 :: o23 :: o24 :: o25 :: o26 :: o27 :: o28 :: o29 :: o30 :: o31 :: o32 :: o33 :: o34 :: o35 :: none :: none :: none :: none :: []))) : Sat (run L1_4 (none :: none :: some RF13 :: some NA13 :: some LG13 :: o5 :: o6 :: o7 :: o8 :: o9 :: o10 :: o11 :: o12 :: some (sq a b h) :: some (sq c d m) :: o15 :: o16 :: o17 :: o18 :: o19 :: o20 :: o21 :: o22 :: o23 :: o24 :: o25 :: o26 :: o27 :: o28 :: o29 :: o30 :: o31 :: o32 :: o33 :: o34 :: o35 :: none :: none :: none :: none :: [])) F := by
  unfold L1_4; clean_wf
  refine sat_lc (fun x => match x with
    | .int 0 => if a / sd h * sd h > c / sd m * sd m + sd m ∨ c / sd m * sd m > a / sd h * sd h + sd h then some (.int 0) else none
    | x => if b / sd h * sd h > d / sd m * sd m + sd m ∨ d / sd m * sd m > b / sd h * sd h + sd h then some x else none) ?_
  clean_wf
  refine ⟨fun x hx => ?_, ?_⟩
  · simp only [List.mem_cons, List.not_mem_nil, or_false] at hx
    rcases hx with rfl | rfl
    · clean_wf
      refine if_dec (fun h1 => ?_) (fun h1 => ?_)
      · clean_wf
        show some _ = if _ then _ else _
        rw [if_pos (Or.inl h1)]
      · clean_wf
        refine if_dec (fun h2 => ?_) (fun h2 => ?_)
        · clean_wf
          show some _ = if _ then _ else _
          rw [if_pos (Or.inr h2)]
        · show none = if _ then _ else _
          rw [if_neg (by rintro (z | z) <;> omega)]
    · clean_wf
      refine if_dec (fun h1 => ?_) (fun h1 => ?_)
      · clean_wf
        show some _ = if _ then _ else _
        rw [if_pos (Or.inl h1)]
      · clean_wf
        refine if_dec (fun h2 => ?_) (fun h2 => ?_)
        · clean_wf
          show some _ = if _ then _ else _
          rw [if_pos (Or.inr h2)]
        · show none = if _ then _ else _
          rw [if_neg (by rintro (z | z) <;> omega)]
  · have key : ∀ v : Bool, v = decide (Tch a b h c d m) → F (.nx (none :: none :: some RF13 :: some NA13 :: some LG13 :: o5 :: o6 :: o7 :: o8 :: o9 :: o10 :: o11 :: o12 :: some (sq a b h) :: some (sq c d m) :: some (.bool v) :: o16 :: o17 :: o18 :: o19 :: o20 :: o21 :: o22 :: o23 :: o24 :: o25 :: o26 :: o27 :: o28 :: o29 :: o30 :: o31 :: o32 :: o33 :: o34 :: o35 :: none :: none :: none :: none :: [])) := fun v hv => by subst hv; exact hF
    by_cases t0 : a / sd h * sd h > c / sd m * sd m + sd m ∨ c / sd m * sd m > a / sd h * sd h + sd h <;> by_cases t1 : b / sd h * sd h > d / sd m * sd m + sd m ∨ d / sd m * sd m > b / sd h * sd h + sd h <;>
      simp only [List.filterMap_cons, List.filterMap_nil, t0, t1, if_true, if_false] <;> (clean_wf; refine sat_eqT rfl rfl ?_; refine key _ ?_)
    · exact (decide_eq_false (by unfold Tch; omega)).symm
    · exact (decide_eq_false (by unfold Tch; omega)).symm
    · exact (decide_eq_false (by unfold Tch; omega)).symm
    · exact (decide_eq_true (by unfold Tch; omega)).symm
theorem t5 (pl : Pl a b) (q : Pl c d) (hF : F (.nx (none :: none :: some RF13 :: some NA13 :: some LG13 :: o5 :: some (pt a b) :: o7 :: some (pt c d) :: o9 :: o10 :: o11 :: o12 :: o13 :: o14 :: o15 :: some (.list (SM a b c d)) :: o17 :: o18 :: o19 :: o20 :: o21 :: o22 :: o23 :: o24 :: o25 :: o26 :: o27 :: o28 :: o29 :: o30 :: o31 :: o32 :: o33 :: o34 :: o35 :: none :: none :: none :: none :: []))) : Sat (run L1_5 (none :: none :: some RF13 :: some NA13 :: some LG13 :: o5 :: some (pt a b) :: o7 :: some (pt c d) :: o9 :: o10 :: o11 :: o12 :: o13 :: o14 :: o15 :: o16 :: o17 :: o18 :: o19 :: o20 :: o21 :: o22 :: o23 :: o24 :: o25 :: o26 :: o27 :: o28 :: o29 :: o30 :: o31 :: o32 :: o33 :: o34 :: o35 :: none :: none :: none :: none :: [])) F := by
  unfold L1_5; clean_wf
  refine sat_lc (fun x => match x with
  | .int k => if ref a b k = ref c d k then some (.str (ref a b k)) else none
  | _ => none) ?_
  clean_wf
  refine ⟨4, 0, -1, rfl, rfl, rfl, [.int 4, .int 3, .int 2, .int 1], by kernel_rfl, fun x hx => ?_, ?_⟩
  · have : ∃ k : Int, x = .int k ∧ 1 ≤ k ∧ k ≤ 4 := by
      simp only [List.mem_cons, List.not_mem_nil, or_false] at hx
      rcases hx with rfl | rfl | rfl | rfl <;> exact ⟨_, rfl, by decide⟩
    obtain ⟨k, rfl, gk⟩ := this
    clean_wf
    refine sat_call_ok (lref_ok pl gk) ?_
    clean_wf
    refine sat_call_ok (lref_ok q gk) ?_
    clean_wf
    refine if_dec (fun h1 => ?_) (fun h1 => ?_)
    · clean_wf
      refine sat_call_ok (lref_ok pl gk) ?_
      show some _ = if _ then _ else _
      rw [if_pos h1]
    · show none = if _ then _ else _
      rw [if_neg h1]
  · exact hF
theorem one_of {v : Int} (h1 : 0 ≤ v) (h2 : v < 4) : 1 ≤ 1 + v ∧ 1 + v ≤ 4 := by omega
theorem sA (hF : ∀ (a b c d h m : Int) o7 o15 o16 o17, Pl a b → Pl c d → (1 ≤ h ∧ h ≤ 4) → (1 ≤ m ∧ m ≤ 4) → Sat (run L1_8 (none :: none :: some RF13 :: some NA13 :: some LG13 :: o5 :: some (pt a b) :: o7 :: some (pt c d) :: some (.int h) :: some (.int m) :: some (.str (ref a b h)) :: some (.str (ref c d m)) :: some (sq a b h) :: some (sq c d m) :: o15 :: o16 :: o17 :: o18 :: o19 :: o20 :: o21 :: o22 :: o23 :: o24 :: o25 :: o26 :: o27 :: o28 :: o29 :: o30 :: o31 :: o32 :: o33 :: o34 :: o35 :: none :: none :: none :: none :: [])) (Kx (X := NoE) R F)) :
    Sat (run L1_0 (none :: none :: some RF13 :: some NA13 :: some LG13 :: o5 :: o6 :: o7 :: o8 :: o9 :: o10 :: o11 :: o12 :: o13 :: o14 :: o15 :: o16 :: o17 :: o18 :: o19 :: o20 :: o21 :: o22 :: o23 :: o24 :: o25 :: o26 :: o27 :: o28 :: o29 :: o30 :: o31 :: o32 :: o33 :: o34 :: o35 :: none :: none :: none :: none :: [])) (Kx (X := NoE) (.cons L1_1 (.cons L1_2 (.cons L1_3 (.cons L1_4 (.cons L1_5 (.cons L1_6 (.cons L1_7 (.cons L1_8 R)))))))) F) := by
  unfold L1_0; clean_wf
  refine point_ok fun a b pl => ?_
  clean_wf
  refine pick_ok (by simp) fun x hx => ?_
  have : ∃ f : Int, x = .int f ∧ 0 ≤ f ∧ f ≤ 100000 := by
    simp only [List.mem_cons, List.not_mem_nil, or_false] at hx
    rcases hx with rfl | rfl | rfl | rfl <;> exact ⟨_, rfl, by decide⟩
  obtain ⟨f, rfl, hf⟩ := this
  clean_wf; unfold L1_1; clean_wf
  refine near_ok pl hf fun c d q => ?_
  clean_wf
  refine sat_take (by omega) fun v h1 h2 => ?_
  clean_wf
  refine sat_take (by omega) fun v' h3 h4 => ?_
  clean_wf
  have g := one_of h1 h2
  have gm := one_of h3 h4
  generalize 1 + v = h at *
  generalize 1 + v' = m at *
  unfold L1_2; clean_wf
  refine sat_call_ok (lref_ok pl g) ?_
  clean_wf
  refine sat_call_ok (lref_ok q gm) ?_
  clean_wf; unfold L1_3; clean_wf
  refine sat_call_ok (lsq_ok pl g) ?_
  clean_wf
  refine sat_call_ok (lsq_ok q gm) ?_
  clean_wf
  refine t4 pl q g gm ?_
  clean_wf
  refine t5 pl q ?_
  clean_wf; unfold L1_6; clean_wf
  refine sat_call_ok (told2 (reference_of_ok pl g)) ?_
  clean_wf
  refine sat_call_ok (told0 (square_of_ok pl g)) ?_
  clean_wf
  refine sat_call_ok (told3 (holds_point_ok pl g pl)) ?_
  clean_wf
  refine sat_call_ok (told3 (holds_point_ok q gm pl)) ?_
  clean_wf
  refine sat_call_ok (told4 (do_touch_ok pl g q gm)) ?_
  clean_wf
  refine sat_call_ok (told9 (common_okV pl q)) ?_
  rw [decide_eq_true (hd_self pl g)]
  clean_wf; unfold L1_7; clean_wf
  have fin : ∀ (w : Bool) (t : Bool), m_law_same 12 [.list [.str (ref a b h), sq a b h, .bool true, .bool w, .bool t, cmV a b c d], .list [.str (ref a b h), sq a b h, .bool true, .bool w, .bool t, cmV a b c d]] = .ok (.bool true) := fun w t => same_list 11 _ (by simp) fun x hx => by
    simp only [List.mem_cons, List.not_mem_nil, or_false] at hx
    rcases hx with rfl | rfl | rfl | rfl | rfl | rfl
    · exact same_str 10 _
    · exact same_sq 9 _ _ _
    · exact same_bool 10 _
    · exact same_bool 10 _
    · exact same_bool 10 _
    · exact same_cmV 10 _ _ _ _
  have sl := SM_len a b c d
  refine if_dec (fun h1 => ?_) (fun h1 => ?_)
  · clean_wf
    refine if_dec (fun h2 => ?_) (fun h2 => ?_)
    · clean_wf
      refine if_dec (fun h3 => ?_) (fun h3 => ?_)
      · clean_wf
        refine sat_addL (by show _ + 1 ≤ 2 ^ 24; omega) ?_
        clean_wf
        refine sat_atL (by decide) (SM_first a b c d) ?_
        clean_wf
        rw [show decide (Hd c d m a b) = decide (b < d / sd m * sd m + sd m) from decide_eq_decide.mpr ⟨fun z => z.2.2, fun h4 => ⟨⟨h1, h2⟩, h3, h4⟩⟩]
        refine sat_call_ok (fin _ _) ?_
        clean_wf
        exact hF _ _ _ _ _ _ _ _ _ _ pl q g gm
      · clean_wf
        refine sat_addL (by show _ + 1 ≤ 2 ^ 24; omega) ?_
        clean_wf
        refine sat_atL (by decide) (SM_first a b c d) ?_
        clean_wf
        rw [show decide (Hd c d m a b) = decide (d / sd m * sd m ≤ b) from decide_eq_decide.mpr ⟨fun z => z.2.1, fun h4 => absurd h4 h3⟩]
        refine sat_call_ok (fin _ _) ?_
        clean_wf
        exact hF _ _ _ _ _ _ _ _ _ _ pl q g gm
    · clean_wf
      refine sat_addL (by show _ + 1 ≤ 2 ^ 24; omega) ?_
      clean_wf
      refine sat_atL (by decide) (SM_first a b c d) ?_
      clean_wf
      rw [show decide (Hd c d m a b) = decide (a < c / sd m * sd m + sd m) from decide_eq_decide.mpr ⟨fun z => z.1.2, fun h4 => absurd h4 h2⟩]
      refine sat_call_ok (fin _ _) ?_
      clean_wf
      exact hF _ _ _ _ _ _ _ _ _ _ pl q g gm
  · clean_wf
    refine sat_addL (by show _ + 1 ≤ 2 ^ 24; omega) ?_
    clean_wf
    refine sat_atL (by decide) (SM_first a b c d) ?_
    clean_wf
    rw [show decide (Hd c d m a b) = decide (c / sd m * sd m ≤ a) from decide_eq_decide.mpr ⟨fun z => z.1.1, fun h4 => absurd h4 h1⟩]
    refine sat_call_ok (fin _ _) ?_
    clean_wf
    exact hF _ _ _ _ _ _ _ _ _ _ pl q g gm
end
end K13

set_option Elab.async false
set_option linter.all false
set_option maxRecDepth 100000
set_option maxHeartbeats 600000

namespace K13
open PySem Mir
theorem lk_right : tab_x.lookup ("NotRight" : Str) = some [true, false, false, false, false] := by kernel_rfl
theorem lk_large : tab_x.lookup ("TooLarge" : Str) = some [false, false, false, true, false] := by kernel_rfl
theorem lk_none : tab_x.lookup ("NoAnswer" : Str) = some [false, false, true, false, false] := by kernel_rfl
theorem same_RF (n : Nat) : m_law_same (n + 2) [RF13, RF13] = .ok (.bool true) := same_list (n + 1) _ (by simp) fun x hx => by
  simp only [List.mem_cons, List.not_mem_nil, or_false] at hx
  rcases hx with rfl | rfl | rfl | rfl | rfl <;> exact same_bool n _
theorem same_NA (n : Nat) : m_law_same (n + 2) [NA13, NA13] = .ok (.bool true) := same_list (n + 1) _ (by simp) fun x hx => by
  simp only [List.mem_cons, List.not_mem_nil, or_false] at hx
  rcases hx with rfl | rfl | rfl | rfl | rfl <;> exact same_bool n _
theorem same_LG (n : Nat) : m_law_same (n + 2) [LG13, LG13] = .ok (.bool true) := same_list (n + 1) _ (by simp) fun x hx => by
  simp only [List.mem_cons, List.not_mem_nil, or_false] at hx
  rcases hx with rfl | rfl | rfl | rfl | rfl <;> exact same_bool n _
theorem same_pt (n : Nat) (a b : Int) : m_law_same (n + 2) [pt a b, pt a b] = .ok (.bool true) := same_tuple (n + 1) _ (by simp) fun x hx => by
  simp only [List.mem_cons, List.not_mem_nil, or_false] at hx
  rcases hx with rfl | rfl <;> exact same_int n _
section
variable {o5 o6 o7 o8 o9 o10 o11 o12 o13 o14 o15 o16 o17 o18 o19 o20 o21 o22 o23 o24 o25 o26 o27 o28 o29 o30 o31 o32 o33 o34 o35 : Option PyData} {F : Fl → Prop} {R : Sts (List Int)} {a b c d h m : Int}
/-- distances and words -/
theorem sB1 (pl : Pl a b) (q : Pl c d) (g : 1 ≤ h ∧ h ≤ 4) (hF : ∀ o7 o18, Sat (run L1_12 (none :: none :: some RF13 :: some NA13 :: some LG13 :: o5 :: some (pt a b) :: o7 :: some (pt c d) :: some (.int h) :: some (.int m) :: some (.str (ref a b h)) :: o12 :: some (sq a b h) :: o14 :: o15 :: o16 :: o17 :: o18 :: o19 :: o20 :: o21 :: o22 :: o23 :: o24 :: o25 :: o26 :: o27 :: o28 :: o29 :: o30 :: o31 :: o32 :: o33 :: o34 :: o35 :: none :: none :: none :: none :: [])) (Kx (X := NoE) R F)) :
    Sat (run L1_8 (none :: none :: some RF13 :: some NA13 :: some LG13 :: o5 :: some (pt a b) :: o7 :: some (pt c d) :: some (.int h) :: some (.int m) :: some (.str (ref a b h)) :: o12 :: some (sq a b h) :: o14 :: o15 :: o16 :: o17 :: o18 :: o19 :: o20 :: o21 :: o22 :: o23 :: o24 :: o25 :: o26 :: o27 :: o28 :: o29 :: o30 :: o31 :: o32 :: o33 :: o34 :: o35 :: none :: none :: none :: none :: [])) (Kx (X := NoE) (.cons L1_9 (.cons L1_10 (.cons L1_11 (.cons L1_12 R)))) F) := by
  have ⟨⟨p1, p2⟩, p3, p4⟩ := pl
  have ⟨⟨q1, q2⟩, q3, q4⟩ := q
  unfold L1_8; clean_wf; unfold L1_9; clean_wf; unfold L1_10; clean_wf
  refine sat_neT rfl rfl ?_
  rw [eqv_pt]
  have k6 := told6 (distance_ok pl q)
  by_cases z : a = c ∧ b = d
  · rw [decide_eq_true z]
    obtain ⟨rfl, rfl⟩ := z
    have k7 : m_law_told [.int 7, .tuple [pt a b, pt a b]] = .ok RF13 := told7x (x_bear3 pl) lk_right
    clean_wf; unfold L1_11; clean_wf
    refine sat_call_ok k6 ?_
    clean_wf
    refine sat_call_ok k7 ?_
    clean_wf
    refine sat_call_ok (is_point_ok pl) ?_
    clean_wf
    refine sat_call_ok (is_reference_ok pl g) ?_
    clean_wf
    refine sat_call_ok (same_list 11 _ (by simp) fun x hx => ?_) ?_
    · simp only [List.mem_cons, List.not_mem_nil, or_false] at hx
      rcases hx with rfl | rfl | rfl | rfl
      · exact same_int 10 _
      · exact same_RF 9
      · exact same_bool 10 _
      · exact same_bool 10 _
    clean_wf
    exact hF _ _
  · rw [decide_eq_false z]
    have k7 := told7 (bearing_ok pl q z)
    clean_wf
    refine sat_call_ok (lword_ok pl q z) ?_
    clean_wf; unfold L1_11; clean_wf
    refine sat_call_ok k6 ?_
    clean_wf
    refine sat_call_ok k7 ?_
    clean_wf
    refine sat_call_ok (is_point_ok pl) ?_
    clean_wf
    refine sat_call_ok (is_reference_ok pl g) ?_
    clean_wf
    refine sat_call_ok (same_list 11 _ (by simp) fun x hx => ?_) ?_
    · simp only [List.mem_cons, List.not_mem_nil, or_false] at hx
      rcases hx with rfl | rfl | rfl | rfl
      · exact same_int 10 _
      · exact same_str 10 _
      · exact same_bool 10 _
      · exact same_bool 10 _
    clean_wf
    exact hF _ _
/-- shortened ones, the checker -/
theorem sB2 (pl : Pl a b) (g : 1 ≤ h ∧ h ≤ 4) (gm : 1 ≤ m ∧ m ≤ 4) (hF : ∀ o19 o20, Sat (run L1_16 (none :: none :: some RF13 :: some NA13 :: some LG13 :: o5 :: some (pt a b) :: o7 :: o8 :: some (.int h) :: some (.int m) :: some (.str (ref a b h)) :: o12 :: some (sq a b h) :: o14 :: o15 :: o16 :: o17 :: o18 :: o19 :: o20 :: o21 :: o22 :: o23 :: o24 :: o25 :: o26 :: o27 :: o28 :: o29 :: o30 :: o31 :: o32 :: o33 :: o34 :: o35 :: none :: none :: none :: none :: [])) (Kx (X := NoE) R F)) :
    Sat (run L1_12 (none :: none :: some RF13 :: some NA13 :: some LG13 :: o5 :: some (pt a b) :: o7 :: o8 :: some (.int h) :: some (.int m) :: some (.str (ref a b h)) :: o12 :: some (sq a b h) :: o14 :: o15 :: o16 :: o17 :: o18 :: o19 :: o20 :: o21 :: o22 :: o23 :: o24 :: o25 :: o26 :: o27 :: o28 :: o29 :: o30 :: o31 :: o32 :: o33 :: o34 :: o35 :: none :: none :: none :: none :: [])) (Kx (X := NoE) (.cons L1_13 (.cons L1_14 (.cons L1_15 (.cons L1_16 R)))) F) := by
  have hb := sd_b g
  have k1 : m_takes_square [.str (ref a b h), .int (a / sd h * sd h), .int (b / sd h * sd h), .int (sd h)] = .ok (.bool true) := by rw [takes_ok pl g, decide_eq_true ⟨rfl, rfl, rfl⟩]
  have k2 : m_takes_square [.str (ref a b h), .int (a / sd h * sd h + 1), .int (b / sd h * sd h), .int (sd h)] = .ok (.bool false) := by rw [takes_ok pl g, decide_eq_false (by omega)]
  have k3 : m_takes_square [.str (ref a b h), .int (a / sd h * sd h), .int (b / sd h * sd h), .int (10 * sd h)] = .ok (.bool false) := by rw [takes_ok pl g, decide_eq_false (by omega)]
  unfold L1_12; clean_wf; unfold L1_13; clean_wf
  refine if_dec (fun z => ?_) (fun z => ?_)
  · have k5 := told5 (shortened_ok pl g ⟨gm.1, z⟩)
    clean_wf
    refine sat_call_ok (lref_ok pl gm) ?_
    clean_wf; unfold L1_14; clean_wf
    refine sat_call_ok k1 ?_
    clean_wf
    refine sat_call_ok k2 ?_
    clean_wf
    refine sat_call_ok k3 ?_
    clean_wf; unfold L1_15; clean_wf
    refine sat_call_ok k5 ?_
    clean_wf
    refine sat_addL (Nat.le_of_ble_eq_true rfl) ?_
    clean_wf
    refine sat_call_ok (same_list 11 [.str (ref a b m), .bool true, .bool false, .bool false] (by simp) fun x hx => ?_) ?_
    · simp only [List.mem_cons, List.not_mem_nil, or_false] at hx
      rcases hx with rfl | rfl | rfl | rfl
      · exact same_str 10 _
      · exact same_bool 10 _
      · exact same_bool 10 _
      · exact same_bool 10 _
    clean_wf
    exact hF _ _
  · have x5 := x_short2 pl g (is_within_no (i := m) (a := 1) (b := h) fun z' => z z'.2)
    have k5 : m_law_told [.int 5, .tuple [.str (ref a b h), .int m]] = .ok RF13 := told5x x5 lk_right
    clean_wf; unfold L1_14; clean_wf
    refine sat_call_ok k1 ?_
    clean_wf
    refine sat_call_ok k2 ?_
    clean_wf
    refine sat_call_ok k3 ?_
    clean_wf; unfold L1_15; clean_wf
    refine sat_call_ok k5 ?_
    clean_wf
    refine sat_addL (Nat.le_of_ble_eq_true rfl) ?_
    clean_wf
    refine sat_call_ok (same_list 11 [RF13, .bool true, .bool false, .bool false] (by simp) fun x hx => ?_) ?_
    · simp only [List.mem_cons, List.not_mem_nil, or_false] at hx
      rcases hx with rfl | rfl | rfl | rfl
      · exact same_RF 9
      · exact same_bool 10 _
      · exact same_bool 10 _
      · exact same_bool 10 _
    clean_wf
    exact hF _ _
theorem absdiff {a e k : Int} (g : 1 ≤ k ∧ k ≤ 4) (p : 0 ≤ a ∧ a < 240000) (q : 0 ≤ e ∧ e < 240000) : (if a / sd k - e / sd k < 0 then -(a / sd k - e / sd k) else a / sd k - e / sd k) = hi a e k - lo a e k := by
  unfold hi lo
  rcases sd_cases g with ⟨rfl, y⟩ | ⟨rfl, y⟩ | ⟨rfl, y⟩ | ⟨rfl, y⟩ <;> rw [y] <;> omega
theorem div_b {a k : Int} (g : 1 ≤ k ∧ k ≤ 4) (p : 0 ≤ a ∧ a < 240000) : 0 ≤ a / sd k ∧ a / sd k < 240000 := by
  rcases sd_cases g with ⟨rfl, y⟩ | ⟨rfl, y⟩ | ⟨rfl, y⟩ | ⟨rfl, y⟩ <;> rw [y] <;> omega
theorem one_of' {v : Int} (h1 : 0 ≤ v) (h2 : v < 4) : 1 ≤ 1 + v ∧ 1 + v ≤ 4 := by omega
/-- squares of rectangles -/
theorem sC (pl : Pl a b) (hF : ∀ o19 o21 o22 o23 o24, Sat (run L1_22 (none :: none :: some RF13 :: some NA13 :: some LG13 :: o5 :: some (pt a b) :: o7 :: o8 :: o9 :: o10 :: o11 :: o12 :: o13 :: o14 :: o15 :: o16 :: o17 :: o18 :: o19 :: o20 :: o21 :: o22 :: o23 :: o24 :: o25 :: o26 :: o27 :: o28 :: o29 :: o30 :: o31 :: o32 :: o33 :: o34 :: o35 :: none :: none :: none :: none :: [])) (Kx (X := NoE) R F)) :
    Sat (run L1_16 (none :: none :: some RF13 :: some NA13 :: some LG13 :: o5 :: some (pt a b) :: o7 :: o8 :: o9 :: o10 :: o11 :: o12 :: o13 :: o14 :: o15 :: o16 :: o17 :: o18 :: o19 :: o20 :: o21 :: o22 :: o23 :: o24 :: o25 :: o26 :: o27 :: o28 :: o29 :: o30 :: o31 :: o32 :: o33 :: o34 :: o35 :: none :: none :: none :: none :: [])) (Kx (X := NoE) (.cons L1_17 (.cons L1_18 (.cons L1_19 (.cons L1_20 (.cons L1_21 (.cons L1_22 R)))))) F) := by
  unfold L1_16; clean_wf
  refine pick_ok (by simp) fun x hx => ?_
  have : ∃ f : Int, x = .int f ∧ 0 ≤ f ∧ f ≤ 100000 := by
    simp only [List.mem_cons, List.not_mem_nil, or_false] at hx
    rcases hx with rfl | rfl | rfl <;> exact ⟨_, rfl, by decide⟩
  obtain ⟨f, rfl, hf⟩ := this
  clean_wf
  refine near_ok pl hf fun e n q => ?_
  clean_wf
  refine sat_take (by omega) fun v h1 h2 => ?_
  clean_wf
  have g := one_of' h1 h2
  generalize 1 + v = k at *
  have hb := sd_b g
  unfold L1_17; clean_wf
  refine sat_atL (by omega) (unit_at g) ?_
  have b1 := div_b g pl.1
  have b2 := div_b g pl.2
  have b3 := div_b g q.1
  have b4 := div_b g q.2
  clean_wf; unfold L1_18; clean_wf
  rw [absdiff g pl.1 q.1, absdiff g pl.2 q.2]
  unfold L1_19; clean_wf; unfold L1_20; clean_wf
  refine if_dec (fun z => ?_) (fun z => ?_)
  · clean_wf
    refine sat_call_ok (between_ok pl q g (by omega)) ?_
    clean_wf; unfold L1_21; clean_wf
    refine sat_call_ok (told10 (squares_ok pl q g (by omega))) ?_
    clean_wf
    have hm : (hi a e k - lo a e k + 1).toNat * (hi b n k - lo b n k + 1).toNat ≤ 400 := by
      have l1 := lohi (a := a) (c := e) g pl.1 q.1
      have l2 := lohi (a := b) (c := n) g pl.2 q.2
      have e1 : ((hi a e k - lo a e k + 1).toNat : Int) = hi a e k - lo a e k + 1 := by omega
      have e2 : ((hi b n k - lo b n k + 1).toNat : Int) = hi b n k - lo b n k + 1 := by omega
      have : (((hi a e k - lo a e k + 1).toNat * (hi b n k - lo b n k + 1).toNat : Nat) : Int) < 401 := by
        rw [Int.natCast_mul, e1, e2]; exact z
      omega
    refine sat_call_ok (same_list 11 _ (by
      unfold rws
      rw [List.length_map, List.length_range, Nat.mul_comm]
      omega) fun x hx => ?_) ?_
    · obtain ⟨j, _, rfl⟩ := List.mem_map.mp hx
      exact same_str 10 _
    clean_wf
    exact hF _ _ _ _ _
  · clean_wf; unfold L1_21; clean_wf
    have k10 : m_law_told [.int 10, .tuple [pt a b, pt e n, .int k]] = .ok LG13 := told10x (x_large pl q g (by omega)) lk_large
    refine sat_call_ok k10 ?_
    clean_wf
    refine sat_call_ok (same_LG 10) ?_
    clean_wf
    exact hF _ _ _ _ _
end
end K13

set_option Elab.async false
set_option linter.all false
set_option maxRecDepth 100000
set_option maxHeartbeats 800000

namespace K13
open PySem Mir
theorem find_first : ∀ (ns : List Int) (i : Int) (j : Nat), ns[j]? = some i → (∀ l y, l < j → ns[l]? = some y → y ≠ i) → ns.findIdx? (fun n => decide (n = i)) = some j
  | [], _, _, h, _ => by cases h
  | n :: ns, i, 0, h, _ => by
    cases h
    rw [List.findIdx?_cons, decide_eq_true rfl]; rfl
  | n :: ns, i, j + 1, h, k => by
    have hn : n ≠ i := k 0 n (Nat.zero_lt_succ _) rfl
    rw [List.findIdx?_cons, decide_eq_false hn, find_first ns i j h fun l y hl hy => k (l + 1) y (Nat.succ_lt_succ hl) hy]
    rfl
theorem sat_lindex {S : Type} {X : Str → Prop} {ns : List Int} {i : Int} {j : Nat} {Q : PyData → Prop} (h1 : ns[j]? = some i) (h2 : ∀ l y, l < j → ns[l]? = some y → y ≠ i) (h : Q (.int (j : Nat))) : SatE (S := S) X (lft (op2D .lindex (.list (ns.map PyData.int)) (.int i))) Q := sat_lft (by
  show (match allInts (ns.map PyData.int) with
    | some ns => (match ns.findIdx? fun n => decide (n = i) with
      | some j => R.ok (PyData.int (j : Nat))
      | none => .bad)
    | none => .bad) = _
  rw [allInts_map]
  show (match ns.findIdx? fun n => decide (n = i) with
      | some j => R.ok (PyData.int (j : Nat))
      | none => .bad) = _
  rw [find_first ns i j h1 h2]) h
theorem min_there : ∀ (d : Int) (ds : List Int), ∃ m, m ∈ d :: ds ∧ ∀ y ∈ d :: ds, m ≤ y
  | d, [] => ⟨d, .head _, fun y h => by rcases List.mem_singleton.mp h with rfl; exact Int.le_refl _⟩
  | d, e :: ds => by
    obtain ⟨m, h1, h2⟩ := min_there e ds
    by_cases c : d ≤ m
    · exact ⟨d, .head _, fun y h => by
        rcases List.mem_cons.mp h with rfl | h
        · exact Int.le_refl _
        · exact Int.le_trans c (h2 y h)⟩
    · exact ⟨m, .tail _ h1, fun y h => by
        rcases List.mem_cons.mp h with rfl | h
        · omega
        · exact h2 y h⟩
theorem sat_min2T {S : Type} {X : Str → Prop} {x y : Int} {Q : PyData → Prop} (h : ∀ m, (m = x ∨ m = y) → m ≤ x → m ≤ y → Q (.int m)) : SatE (S := S) X (lft (bltD .min1 [.tuple [.int x, .int y]])) Q := by
  obtain ⟨m, h1, h2⟩ := min_there x [y]
  show SatE X (lft (bltD .min1 [.list ([x, y].map PyData.int)])) Q
  exact sat_minI h1 h2 (h m (by simpa using h1) (h2 _ (.head _)) (h2 _ (.tail _ (.head _))))
theorem sat_max2T {S : Type} {X : Str → Prop} {x y : Int} {Q : PyData → Prop} (h : ∀ m, (m = x ∨ m = y) → x ≤ m → y ≤ m → Q (.int m)) : SatE (S := S) X (lft (bltD .max1 [.tuple [.int x, .int y]])) Q := by
  show SatE X (lft (bltD .max1 [.list ([x, y].map PyData.int)])) Q
  exact sat_maxE (by simp) fun m h1 h2 => h m (by simpa using h1) (h2 _ (.head _)) (h2 _ (.tail _ (.head _)))
theorem pts_of : ∀ ys : List PyData, (∀ y ∈ ys, ∃ e n, Pl e n ∧ y = pt e n) → ∃ ps : List Pt, ys = ps.map pd ∧ ∀ p ∈ ps, Pl p.1 p.2
  | [], _ => ⟨[], rfl, fun _ h => nomatch h⟩
  | y :: ys, h => by
    obtain ⟨e, n, h1, rfl⟩ := h y (.head _)
    obtain ⟨ps, rfl, h2⟩ := pts_of ys fun z hz => h z (.tail _ hz)
    exact ⟨(e, n) :: ps, rfl, fun p hp => by
      cases hp with
      | head => exact h1
      | tail _ hp => exact h2 p hp⟩
section
variable {o5 o6 o7 o8 o9 o10 o11 o12 o13 o14 o15 o16 o17 o18 o19 o20 o21 o22 o23 o24 o25 o26 o27 o28 o29 o30 o31 o32 o33 o34 o35 : Option PyData} {F : Fl → Prop} {R : Sts (List Int)} {a b c d h m : Int}
/-- nearest, middle, moved points -/
theorem sD (pl : Pl a b) (q : Pl c d) (hF : ∀ o25 o26 o27 o28 o29 o30, Sat (run L1_29 (none :: none :: some RF13 :: some NA13 :: some LG13 :: o5 :: some (pt a b) :: o7 :: some (pt c d) :: o9 :: o10 :: o11 :: o12 :: o13 :: o14 :: o15 :: o16 :: o17 :: o18 :: o19 :: o20 :: o21 :: o22 :: o23 :: o24 :: o25 :: o26 :: o27 :: o28 :: o29 :: o30 :: o31 :: o32 :: o33 :: o34 :: o35 :: none :: none :: none :: none :: [])) (Kx (X := NoE) R F)) :
    Sat (run L1_22 (none :: none :: some RF13 :: some NA13 :: some LG13 :: o5 :: some (pt a b) :: o7 :: some (pt c d) :: o9 :: o10 :: o11 :: o12 :: o13 :: o14 :: o15 :: o16 :: o17 :: o18 :: o19 :: o20 :: o21 :: o22 :: o23 :: o24 :: o25 :: o26 :: o27 :: o28 :: o29 :: o30 :: o31 :: o32 :: o33 :: o34 :: o35 :: none :: none :: none :: none :: [])) (Kx (X := NoE) (.cons L1_23 (.cons L1_24 (.cons L1_25 (.cons L1_26 (.cons L1_27 (.cons L1_28 (.cons L1_29 R))))))) F) := by
  have ⟨⟨p1, p2⟩, p3, p4⟩ := pl
  have ⟨⟨q1, q2⟩, q3, q4⟩ := q
  unfold L1_22; clean_wf
  refine sat_lcA (fun y => ∃ e n, Pl e n ∧ y = pt e n) ?_
  clean_wf
  refine sat_take (by omega) fun v h1 h2 => ?_
  clean_wf
  refine ⟨by show _ ≤ (2 ^ 24 : Int); omega, by omega, fun x hx => ?_, fun ys hy1 hy2 => ?_⟩
  · obtain ⟨k, _, rfl⟩ := List.mem_map.mp hx
    clean_wf
    refine near_ok pl (by decide) fun e n p => ?_
    clean_wf
    exact ⟨e, n, p, rfl⟩
  obtain ⟨ps, rfl, hps⟩ := pts_of ys hy2
  rw [List.length_map, rangeD_len] at hy1
  have P : Pls ps := ⟨fun z => by rw [z] at hy1; simp at hy1; omega, by omega, hps⟩
  have hl0 : 0 < ps.length := by omega
  obtain ⟨k, w, hk, hk1, hk2, hk3⟩ := nearest_ok q P
  have hmem : w ∈ ps.map (dst c d) := List.mem_of_getElem? hk1
  clean_wf; unfold L1_23; clean_wf
  refine sat_lc (fun x => match x with
      | .tuple [.int e, .int n] => some (.int (dst c d (e, n)))
      | _ => none) ?_
  clean_wf
  refine ⟨fun x hx => ?_, ?_⟩
  · obtain ⟨r, hr, rfl⟩ := List.mem_map.mp hx
    have ⟨⟨r1, r2⟩, r3, r4⟩ := hps r hr
    clean_wf
    have e : (r.1 - c) * (r.1 - c) + (r.2 - d) * (r.2 - d) = dst c d (r.1, r.2) := by
      show _ = (c - r.1) * (c - r.1) + (d - r.2) * (d - r.2)
      rw [← Int.neg_sub c, ← Int.neg_sub d, Int.neg_mul_neg, Int.neg_mul_neg]
    rw [e]
  have e1 : (ps.map pd).filterMap (fun x => match x with
      | .tuple [.int e, .int n] => some (.int (dst c d (e, n)))
      | _ => none) = (ps.map (dst c d)).map PyData.int := by
    rw [List.map_map, List.filterMap_map, ← List.filterMap_eq_map]
    rfl
  rw [e1]
  have f1 : (ps.map pd).filterMap (fun x => match x with
      | .tuple [e, _] => some e
      | _ => none) = (ps.map (·.1)).map PyData.int := by
    rw [List.map_map, List.filterMap_map, ← List.filterMap_eq_map]
    rfl
  have f2 : (ps.map pd).filterMap (fun x => match x with
      | .tuple [_, e] => some e
      | _ => none) = (ps.map (·.2)).map PyData.int := by
    rw [List.map_map, List.filterMap_map, ← List.filterMap_eq_map]
    rfl
  clean_wf; unfold L1_24; clean_wf
  refine sat_lc (fun x => match x with
      | .tuple [e, _] => some e
      | _ => none) ?_
  clean_wf
  refine ⟨fun x hx => ?_, ?_⟩
  · obtain ⟨r, hr, rfl⟩ := List.mem_map.mp hx
    clean_wf
    rfl
  rw [f1]
  clean_wf
  refine sat_sumI ?_
  clean_wf
  rw [List.length_map]
  refine sat_divI (by omega) ?_
  clean_wf
  refine sat_lc (fun x => match x with
      | .tuple [_, e] => some e
      | _ => none) ?_
  clean_wf
  refine ⟨fun x hx => ?_, ?_⟩
  · obtain ⟨r, hr, rfl⟩ := List.mem_map.mp hx
    clean_wf
    rfl
  rw [f2]
  clean_wf
  refine sat_sumI ?_
  clean_wf
  rw [List.length_map]
  refine sat_divI (by omega) ?_
  clean_wf; unfold L1_25; clean_wf
  refine sat_take (by omega) fun x x1 x2 => ?_
  clean_wf
  refine sat_take (by omega) fun y y1 y2 => ?_
  clean_wf; unfold L1_26; clean_wf; unfold L1_27; clean_wf
  have same1 : ∀ (A B : Int) (M : PyData), m_law_same 11 [M, M] = .ok (.bool true) → m_law_same 12 [.list [.int k, pt A B, M], .list [.int k, pt A B, M]] = .ok (.bool true) := fun A B M hM => same_list 11 _ (by simp) fun x hx => by
    simp only [List.mem_cons, List.not_mem_nil, or_false] at hx
    rcases hx with rfl | rfl | rfl
    · exact same_int 10 _
    · exact same_pt 9 _ _
    · exact hM
  refine sat_min2T fun u u1 u2 u3 => ?_
  clean_wf
  by_cases z : Pl (a + (x - 300)) (b + (y - 300))
  · have k11 := told11 (moved_ok pl z)
    have ⟨⟨z1, z2⟩, z3, z4⟩ := z
    clean_wf
    refine sat_max2T fun t t1 t2 t3 => ?_
    clean_wf; unfold L1_28; clean_wf
    refine sat_call_ok (told8 hk) ?_
    clean_wf
    refine sat_call_ok (told1 (middle_ok P)) ?_
    clean_wf
    refine sat_call_ok k11 ?_
    clean_wf
    refine sat_minI hmem hk2 ?_
    refine sat_lindex hk1 (fun l y hl hy e => ?_) ?_
    · have := hk3 l y hl hy
      omega
    clean_wf
    refine sat_call_ok (same1 _ _ _ (same_pt 9 _ _)) ?_
    clean_wf
    exact hF _ _ _ _ _ _
  · have k11 : m_law_told [.int 11, .tuple [pt a b, .int (x - 300), .int (y - 300)]] = .ok NA13 := told11x (moved_exc pl z) lk_none
    refine if_dec (fun w1 => ?_) (fun w1 => ?_)
    · clean_wf; unfold L1_28; clean_wf
      refine sat_call_ok (told8 hk) ?_
      clean_wf
      refine sat_call_ok (told1 (middle_ok P)) ?_
      clean_wf
      refine sat_call_ok k11 ?_
      clean_wf
      refine sat_minI hmem hk2 ?_
      refine sat_lindex hk1 (fun l y hl hy e => ?_) ?_
      · have := hk3 l y hl hy
        omega
      clean_wf
      refine sat_call_ok (same1 _ _ _ (same_NA 9)) ?_
      clean_wf
      exact hF _ _ _ _ _ _
    · clean_wf
      refine sat_max2T fun t t1 t2 t3 => ?_
      have : 239999 < t := by
        apply Classical.byContradiction
        intro nt
        exact z ⟨by omega, by omega⟩
      clean_wf; unfold L1_28; clean_wf
      refine sat_call_ok (told8 hk) ?_
      clean_wf
      refine sat_call_ok (told1 (middle_ok P)) ?_
      clean_wf
      refine sat_call_ok k11 ?_
      clean_wf
      refine sat_minI hmem hk2 ?_
      refine sat_lindex hk1 (fun l y hl hy e => ?_) ?_
      · have := hk3 l y hl hy
        omega
      clean_wf
      refine sat_call_ok (same1 _ _ _ (same_NA 9)) ?_
      clean_wf
      exact hF _ _ _ _ _ _
end
end K13

set_option Elab.async false
set_option linter.all false
set_option maxRecDepth 100000
set_option maxHeartbeats 700000

namespace K13
open PySem Mir
theorem bads : ∀ d ∈ [PyData.none, .str ("" : Str), .str ("AB1" : Str), .str ("AI12" : Str), .str ("OA12" : Str), .str ("ab12" : Str), .str ("AB123456789" : Str), .str ("AB1x" : Str), .int 5], m_is_reference [d] = .ok (.bool false) := by
  intro d hd
  simp only [List.mem_cons, List.not_mem_nil, or_false] at hd
  rcases hd with rfl | rfl | rfl | rfl | rfl | rfl | rfl | rfl | rfl <;> kernel_rfl
theorem odds : ∀ d ∈ [PyData.none, .tuple [.int 0], .tuple [.int (-1), .int 0], .tuple [.int 0, .int 240000], .tuple [.bool true, .int 0], .list [.int 0, .int 0]], m_is_point [d] = .ok (.bool false) := by
  intro d hd
  simp only [List.mem_cons, List.not_mem_nil, or_false] at hd
  rcases hd with rfl | rfl | rfl | rfl | rfl | rfl <;> kernel_rfl
theorem within_not {d x y : PyData} (h : m_is_integer [d] = .ok (.bool false)) : m_is_within [d, x, y] = .ok (.bool false) := by
  refine defP_ok ?_
  unfold b_is_within
  show Sat (runs _ [some d, some x, some y]) _
  clean_wf
  refine sat_call_ok h ?_
  clean_wf
  rfl
theorem cells {h : Int} (g : 1 ≤ h ∧ h ≤ 4) : ∀ d ∈ [PyData.int 0, .int 5, .none, .bool true], m_is_within [d, .int 1, .int h] = .ok (.bool false) := by
  intro d hd
  simp only [List.mem_cons, List.not_mem_nil, or_false] at hd
  rcases hd with rfl | rfl | rfl | rfl
  · exact is_within_no (by omega)
  · exact is_within_no (by omega)
  · exact within_not (by kernel_rfl)
  · exact within_not (by kernel_rfl)
theorem somes {a b : Int} {odd : PyData} (ho : m_is_point [odd] = .ok (.bool false)) : ∀ d ∈ [PyData.none, .list [], .tuple [pt a b], .list [odd]], m_are_points [d] = .ok (.bool false) := by
  intro d hd
  simp only [List.mem_cons, List.not_mem_nil, or_false] at hd
  rcases hd with rfl | rfl | rfl | rfl
  · kernel_rfl
  · kernel_rfl
  · refine defP_ok ?_
    unfold b_are_points
    show Sat (runs _ [some (.tuple [pt a b]), none]) _
    clean_wf
    rfl
  · refine defP_ok ?_
    unfold b_are_points
    show Sat (runs _ [some (.list [odd]), none]) _
    clean_wf
    refine sat_lc (fun _ => some (.bool ((fun _ => false) ()))) ?_
    clean_wf
    refine ⟨fun x hx => ?_, ?_⟩
    · rcases List.mem_singleton.mp hx with rfl
      clean_wf
      refine sat_call_ok ho ?_
      clean_wf
      rfl
    · clean_wf
      refine sat_allB (f := fun _ => false) ?_
      clean_wf
      rfl
theorem fm_const {d : PyData} : ∀ (l : List PyData) (n : Nat), l.length = n → l.filterMap (fun _ => some d) = List.replicate n d
  | [], _, h => by subst h; rfl
  | _ :: l, n, h => by
    subst h
    rw [List.filterMap_cons, fm_const l _ rfl]; rfl
theorem same24 (L : List PyData) (hL : L.length ≤ 2 ^ 24) (h : ∀ x ∈ L, x = RF13 ∨ x = .bool false) : m_law_same 12 [.list L, .list L] = .ok (.bool true) := same_list 11 L hL fun x hx => by
  rcases h x hx with rfl | rfl
  · exact same_RF 9
  · exact same_bool 10 _
theorem lc_told {y0 y1 y2 y3 y4 y5 y6 y7 y8 y9 y10 y11 y12 y13 y14 y15 y16 y17 y18 y19 y20 y21 y22 y23 y24 y25 y26 y27 y28 y29 y30 y31 y32 y33 y34 y35 y36 y37 y38 y39 : Option PyData} {w x d : PyData} (h : m_law_told [w, x] = .ok d) : LcF (List Int) (.call ("_law_told" : Str) m_law_told (.cons (.v 38) (.cons (.v 39) .nil))) (.tup [38, 39]) (.bl true) (y0 :: y1 :: y2 :: y3 :: y4 :: y5 :: y6 :: y7 :: y8 :: y9 :: y10 :: y11 :: y12 :: y13 :: y14 :: y15 :: y16 :: y17 :: y18 :: y19 :: y20 :: y21 :: y22 :: y23 :: y24 :: y25 :: y26 :: y27 :: y28 :: y29 :: y30 :: y31 :: y32 :: y33 :: y34 :: y35 :: y36 :: y37 :: y38 :: y39 :: []) (.tuple [w, x]) (· = some d) := by
  clean_wf
  refine sat_call_ok h ?_
  clean_wf
  rfl
section
variable {o5 o6 o7 o8 o9 o10 o11 o12 o13 o14 o15 o16 o17 o18 o19 o20 o21 o22 o23 o24 o25 o26 o27 o28 o29 o30 o31 o32 o33 o34 o35 : Option PyData} {F : Fl → Prop} {R : Sts (List Int)} {a b h : Int}
/-- the calls that are refused -/
theorem sE2 {bad odd cell some_ : PyData} (pl : Pl a b) (g : 1 ≤ h ∧ h ≤ 4) (hb : m_is_reference [bad] = .ok (.bool false)) (ho : m_is_point [odd] = .ok (.bool false)) (hch : m_is_within [cell, .int 1, .int h] = .ok (.bool false)) (hc : m_is_within [cell, .int 1, .int 4] = .ok (.bool false)) (hs : m_are_points [some_] = .ok (.bool false))
    (hF : F (.nx (none :: none :: some RF13 :: some NA13 :: some LG13 :: o5 :: some (pt a b) :: o7 :: o8 :: o9 :: o10 :: some (.str (ref a b h)) :: o12 :: o13 :: o14 :: o15 :: o16 :: o17 :: o18 :: o19 :: o20 :: o21 :: o22 :: o23 :: o24 :: o25 :: o26 :: o27 :: o28 :: o29 :: o30 :: some bad :: some odd :: some cell :: some some_ :: some (.list [.tuple [.int 0, .tuple [bad]], .tuple [.int 1, .tuple [some_]], .tuple [.int 2, .tuple [odd, .int 1]], .tuple [.int 2, .tuple [pt a b, cell]], .tuple [.int 3, .tuple [bad, pt a b]], .tuple [.int 3, .tuple [.str (ref a b h), odd]], .tuple [.int 4, .tuple [bad, .str (ref a b h)]], .tuple [.int 4, .tuple [.str (ref a b h), bad]], .tuple [.int 5, .tuple [bad, .int 1]], .tuple [.int 5, .tuple [.str (ref a b h), cell]], .tuple [.int 6, .tuple [odd, pt a b]], .tuple [.int 6, .tuple [pt a b, odd]], .tuple [.int 7, .tuple [odd, pt a b]], .tuple [.int 7, .tuple [pt a b, odd]], .tuple [.int 8, .tuple [odd, .list [pt a b]]], .tuple [.int 8, .tuple [pt a b, some_]], .tuple [.int 9, .tuple [odd, pt a b]], .tuple [.int 9, .tuple [pt a b, odd]], .tuple [.int 10, .tuple [odd, pt a b, .int 1]], .tuple [.int 10, .tuple [pt a b, odd, .int 1]], .tuple [.int 10, .tuple [pt a b, pt a b, cell]], .tuple [.int 11, .tuple [odd, .int 0, .int 0]], .tuple [.int 11, .tuple [pt a b, .none, .int 0]], .tuple [.int 11, .tuple [pt a b, .int 0, .bool true]]]) :: none :: none :: none :: none :: []))) : Sat (run L1_35 (none :: none :: some RF13 :: some NA13 :: some LG13 :: o5 :: some (pt a b) :: o7 :: o8 :: o9 :: o10 :: some (.str (ref a b h)) :: o12 :: o13 :: o14 :: o15 :: o16 :: o17 :: o18 :: o19 :: o20 :: o21 :: o22 :: o23 :: o24 :: o25 :: o26 :: o27 :: o28 :: o29 :: o30 :: some bad :: some odd :: some cell :: some some_ :: some (.list [.tuple [.int 0, .tuple [bad]], .tuple [.int 1, .tuple [some_]], .tuple [.int 2, .tuple [odd, .int 1]], .tuple [.int 2, .tuple [pt a b, cell]], .tuple [.int 3, .tuple [bad, pt a b]], .tuple [.int 3, .tuple [.str (ref a b h), odd]], .tuple [.int 4, .tuple [bad, .str (ref a b h)]], .tuple [.int 4, .tuple [.str (ref a b h), bad]], .tuple [.int 5, .tuple [bad, .int 1]], .tuple [.int 5, .tuple [.str (ref a b h), cell]], .tuple [.int 6, .tuple [odd, pt a b]], .tuple [.int 6, .tuple [pt a b, odd]], .tuple [.int 7, .tuple [odd, pt a b]], .tuple [.int 7, .tuple [pt a b, odd]], .tuple [.int 8, .tuple [odd, .list [pt a b]]], .tuple [.int 8, .tuple [pt a b, some_]], .tuple [.int 9, .tuple [odd, pt a b]], .tuple [.int 9, .tuple [pt a b, odd]], .tuple [.int 10, .tuple [odd, pt a b, .int 1]], .tuple [.int 10, .tuple [pt a b, odd, .int 1]], .tuple [.int 10, .tuple [pt a b, pt a b, cell]], .tuple [.int 11, .tuple [odd, .int 0, .int 0]], .tuple [.int 11, .tuple [pt a b, .none, .int 0]], .tuple [.int 11, .tuple [pt a b, .int 0, .bool true]]]) :: none :: none :: none :: none :: [])) F := by
  have c0 : m_law_told [.int 0, .tuple [bad]] = .ok RF13 := told0x (x_square hb) lk_right
  have c1 : m_law_told [.int 1, .tuple [some_]] = .ok RF13 := told1x (x_middle hs) lk_right
  have c2 : m_law_told [.int 2, .tuple [odd, .int 1]] = .ok RF13 := told2x (x_ref ho) lk_right
  have c3 : m_law_told [.int 2, .tuple [pt a b, cell]] = .ok RF13 := told2x (x_ref2 pl hc) lk_right
  have c4 : m_law_told [.int 3, .tuple [bad, pt a b]] = .ok RF13 := told3x (x_holds1 hb) lk_right
  have c5 : m_law_told [.int 3, .tuple [.str (ref a b h), odd]] = .ok RF13 := told3x (x_holds2 pl g ho) lk_right
  have c6 : m_law_told [.int 4, .tuple [bad, .str (ref a b h)]] = .ok RF13 := told4x (x_touch1 hb) lk_right
  have c7 : m_law_told [.int 4, .tuple [.str (ref a b h), bad]] = .ok RF13 := told4x (x_touch2 pl g hb) lk_right
  have c8 : m_law_told [.int 5, .tuple [bad, .int 1]] = .ok RF13 := told5x (x_short1 hb) lk_right
  have c9 : m_law_told [.int 5, .tuple [.str (ref a b h), cell]] = .ok RF13 := told5x (x_short2 pl g hch) lk_right
  have c10 : m_law_told [.int 6, .tuple [odd, pt a b]] = .ok RF13 := told6x (x_dist1 ho) lk_right
  have c11 : m_law_told [.int 6, .tuple [pt a b, odd]] = .ok RF13 := told6x (x_dist2 pl ho) lk_right
  have c12 : m_law_told [.int 7, .tuple [odd, pt a b]] = .ok RF13 := told7x (x_bear1 ho) lk_right
  have c13 : m_law_told [.int 7, .tuple [pt a b, odd]] = .ok RF13 := told7x (x_bear2 pl ho) lk_right
  have c14 : m_law_told [.int 8, .tuple [odd, .list [pt a b]]] = .ok RF13 := told8x (x_near1 ho) lk_right
  have c15 : m_law_told [.int 8, .tuple [pt a b, some_]] = .ok RF13 := told8x (x_near2 pl hs) lk_right
  have c16 : m_law_told [.int 9, .tuple [odd, pt a b]] = .ok RF13 := told9x (x_com1 ho) lk_right
  have c17 : m_law_told [.int 9, .tuple [pt a b, odd]] = .ok RF13 := told9x (x_com2 pl ho) lk_right
  have c18 : m_law_told [.int 10, .tuple [odd, pt a b, .int 1]] = .ok RF13 := told10x (x_sq1 ho) lk_right
  have c19 : m_law_told [.int 10, .tuple [pt a b, odd, .int 1]] = .ok RF13 := told10x (x_sq2 pl ho) lk_right
  have c20 : m_law_told [.int 10, .tuple [pt a b, pt a b, cell]] = .ok RF13 := told10x (x_sq3 pl pl hc) lk_right
  have c21 : m_law_told [.int 11, .tuple [odd, .int 0, .int 0]] = .ok RF13 := told11x (x_mov1 ho) lk_right
  have c22 : m_law_told [.int 11, .tuple [pt a b, .none, .int 0]] = .ok RF13 := told11x (x_mov2 pl (by kernel_rfl)) lk_right
  have c23 : m_law_told [.int 11, .tuple [pt a b, .int 0, .bool true]] = .ok RF13 := told11x (x_mov3 pl (i := 0) (by kernel_rfl)) lk_right
  unfold L1_35; clean_wf
  refine sat_lc (fun _ => some RF13) ?_
  clean_wf
  refine ⟨fun x hx => ?_, ?_⟩
  · simp only [List.mem_cons, List.not_mem_nil, or_false] at hx
    rcases hx with rfl | rfl | rfl | rfl | rfl | rfl | rfl | rfl | rfl | rfl | rfl | rfl | rfl | rfl | rfl | rfl | rfl | rfl | rfl | rfl | rfl | rfl | rfl | rfl
    · exact lc_told c0
    · exact lc_told c1
    · exact lc_told c2
    · exact lc_told c3
    · exact lc_told c4
    · exact lc_told c5
    · exact lc_told c6
    · exact lc_told c7
    · exact lc_told c8
    · exact lc_told c9
    · exact lc_told c10
    · exact lc_told c11
    · exact lc_told c12
    · exact lc_told c13
    · exact lc_told c14
    · exact lc_told c15
    · exact lc_told c16
    · exact lc_told c17
    · exact lc_told c18
    · exact lc_told c19
    · exact lc_told c20
    · exact lc_told c21
    · exact lc_told c22
    · exact lc_told c23
  clean_wf
  refine sat_call_ok hb ?_
  clean_wf
  refine sat_call_ok ho ?_
  clean_wf
  refine sat_addL (Nat.le_of_ble_eq_true rfl) ?_
  clean_wf
  have hmul : binD .Mult (.list [RF13]) (.int 24) = .ok (.list (List.replicate 24 RF13)) := by kernel_rfl
  refine sat_lft hmul ?_
  clean_wf
  refine sat_addL (Nat.le_of_ble_eq_true rfl) ?_
  rw [fm_const _ 24 rfl]
  clean_wf
  have h24 : ∀ x ∈ List.replicate 24 RF13 ++ [PyData.bool false, PyData.bool false], x = RF13 ∨ x = PyData.bool false := fun x hx => by
    rcases List.mem_append.mp hx with hx | hx
    · exact .inl (List.eq_of_mem_replicate hx)
    · simp only [List.mem_cons, List.not_mem_nil, or_false, or_self] at hx
      exact .inr hx
  have l24 : (List.replicate 24 RF13 ++ [PyData.bool false, PyData.bool false]).length ≤ 2 ^ 24 := by
    rw [List.length_append, List.length_replicate]
    show 26 ≤ 2 ^ 24
    decide
  generalize List.replicate 24 RF13 ++ [PyData.bool false, PyData.bool false] = L at h24 l24 ⊢
  refine sat_call_ok (same24 L l24 h24) ?_
  clean_wf
  exact hF
/-- what is none is refused -/
theorem sE (pl : Pl a b) (g : 1 ≤ h ∧ h ≤ 4) (hF : ∀ o31 o32 o33 o34 o35, F (.nx (none :: none :: some RF13 :: some NA13 :: some LG13 :: o5 :: some (pt a b) :: o7 :: o8 :: o9 :: o10 :: some (.str (ref a b h)) :: o12 :: o13 :: o14 :: o15 :: o16 :: o17 :: o18 :: o19 :: o20 :: o21 :: o22 :: o23 :: o24 :: o25 :: o26 :: o27 :: o28 :: o29 :: o30 :: o31 :: o32 :: o33 :: o34 :: o35 :: none :: none :: none :: none :: []))) :
    Sat (run L1_29 (none :: none :: some RF13 :: some NA13 :: some LG13 :: o5 :: some (pt a b) :: o7 :: o8 :: o9 :: o10 :: some (.str (ref a b h)) :: o12 :: o13 :: o14 :: o15 :: o16 :: o17 :: o18 :: o19 :: o20 :: o21 :: o22 :: o23 :: o24 :: o25 :: o26 :: o27 :: o28 :: o29 :: o30 :: o31 :: o32 :: o33 :: o34 :: o35 :: none :: none :: none :: none :: [])) (Kx (X := NoE) (.cons L1_30 (.cons L1_31 (.cons L1_32 (.cons L1_33 (.cons L1_34 (.cons L1_35 .nil)))))) F) := by
  unfold L1_29; clean_wf
  refine pick_ok (by simp) fun bad hb => ?_
  clean_wf
  refine pick_ok (by simp) fun odd ho => ?_
  have hb := bads bad hb
  have ho := odds odd ho
  clean_wf; unfold L1_30; clean_wf
  refine pick_ok (by simp) fun cell hc => ?_
  have hch := cells g cell hc
  have hc := cells (h := 4) (by decide) cell hc
  clean_wf
  refine pick_ok (by simp) fun some_ hs => ?_
  have hs := somes (a := a) (b := b) ho some_ hs
  clean_wf; unfold L1_31; clean_wf; unfold L1_32; clean_wf
  refine sat_addL (Nat.le_of_ble_eq_true rfl) ?_
  clean_wf; unfold L1_33; clean_wf
  refine sat_addL (Nat.le_of_ble_eq_true rfl) ?_
  clean_wf; unfold L1_34; clean_wf
  refine sat_addL (Nat.le_of_ble_eq_true rfl) ?_
  clean_wf
  show Sat (run L1_35 (none :: none :: some RF13 :: some NA13 :: some LG13 :: o5 :: some (pt a b) :: o7 :: o8 :: o9 :: o10 :: some (.str (ref a b h)) :: o12 :: o13 :: o14 :: o15 :: o16 :: o17 :: o18 :: o19 :: o20 :: o21 :: o22 :: o23 :: o24 :: o25 :: o26 :: o27 :: o28 :: o29 :: o30 :: some bad :: some odd :: some cell :: some some_ :: some (.list [.tuple [.int 0, .tuple [bad]], .tuple [.int 1, .tuple [some_]], .tuple [.int 2, .tuple [odd, .int 1]], .tuple [.int 2, .tuple [pt a b, cell]], .tuple [.int 3, .tuple [bad, pt a b]], .tuple [.int 3, .tuple [.str (ref a b h), odd]], .tuple [.int 4, .tuple [bad, .str (ref a b h)]], .tuple [.int 4, .tuple [.str (ref a b h), bad]], .tuple [.int 5, .tuple [bad, .int 1]], .tuple [.int 5, .tuple [.str (ref a b h), cell]], .tuple [.int 6, .tuple [odd, pt a b]], .tuple [.int 6, .tuple [pt a b, odd]], .tuple [.int 7, .tuple [odd, pt a b]], .tuple [.int 7, .tuple [pt a b, odd]], .tuple [.int 8, .tuple [odd, .list [pt a b]]], .tuple [.int 8, .tuple [pt a b, some_]], .tuple [.int 9, .tuple [odd, pt a b]], .tuple [.int 9, .tuple [pt a b, odd]], .tuple [.int 10, .tuple [odd, pt a b, .int 1]], .tuple [.int 10, .tuple [pt a b, odd, .int 1]], .tuple [.int 10, .tuple [pt a b, pt a b, cell]], .tuple [.int 11, .tuple [odd, .int 0, .int 0]], .tuple [.int 11, .tuple [pt a b, .none, .int 0]], .tuple [.int 11, .tuple [pt a b, .int 0, .bool true]]]) :: none :: none :: none :: none :: [])) _
  refine sE2 pl g hb ho hch hc hs ?_
  clean_wf
  exact hF _ _ _ _ _
end
theorem last_ok : m_law_same 12 [.list [.str ("BA234678" : Str), .tuple [.int 12300, .int 6700, .int 100], .bool true, .str ("BA26" : Str), .list [.str ("BA26" : Str), .str ("BA36" : Str)], .str ("e" : Str), .str ("ne" : Str), .str ("BA2367" : Str), .none], .list [.str ("BA234678" : Str), .tuple [.int 12300, .int 6700, .int 100], .bool true, .str ("BA26" : Str), .list [.str ("BA26" : Str), .str ("BA36" : Str)], .str ("e" : Str), .str ("ne" : Str), .str ("BA2367" : Str), .none]] = .ok (.bool true) := by kernel_rfl
theorem law_ok13 : Sat (runs b_law (List.replicate N_law.length none)) (FinQ (· = .bool true)) := by
  rw [Leq]
  show Sat (runs _ [none, none, none, none, none, none, none, none, none, none, none, none, none, none, none, none, none, none, none, none, none, none, none, none, none, none, none, none, none, none, none, none, none, none, none, none, none, none, none, none]) _
  clean_wf; unfold L0; clean_wf; unfold L1
  refine sat_for (fun _ k ρ => ∃ o5 o6 o7 o8 o9 o10 o11 o12 o13 o14 o15 o16 o17 o18 o19 o20 o21 o22 o23 o24 o25 o26 o27 o28 o29 o30 o31 o32 o33 o34 o35 : Option PyData, ρ = (none :: none :: some RF13 :: some NA13 :: some LG13 :: o5 :: o6 :: o7 :: o8 :: o9 :: o10 :: o11 :: o12 :: o13 :: o14 :: o15 :: o16 :: o17 :: o18 :: o19 :: o20 :: o21 :: o22 :: o23 :: o24 :: o25 :: o26 :: o27 :: o28 :: o29 :: o30 :: o31 :: o32 :: o33 :: o34 :: o35 :: none :: none :: none :: none :: [])) ?_
  clean_wf
  refine ⟨⟨none, none, none, none, none, none, none, none, none, none, none, none, none, none, none, none, none, none, none, none, none, none, none, none, none, none, none, none, none, none, none, rfl⟩, ?_, ?_⟩
  · rintro k hk ρ ⟨o5, o6, o7, o8, o9, o10, o11, o12, o13, o14, o15, o16, o17, o18, o19, o20, o21, o22, o23, o24, o25, o26, o27, o28, o29, o30, o31, o32, o33, o34, o35, rfl⟩
    rw [rangeD_get hk]
    clean_wf
    refine sA fun a b c d h m _ _ _ _ pl q g gm => ?_
    refine sB1 pl q g fun _ _ => ?_
    refine sB2 pl g gm fun _ _ => ?_
    refine sC pl fun _ _ _ _ _ => ?_
    refine sD pl q fun _ _ _ _ _ _ => ?_
    refine sE pl g fun _ _ _ _ _ => ?_
    clean_wf
    exact ⟨_, _, _, _, _, _, _, _, _, _, _, _, _, _, _, _, _, _, _, _, _, _, _, _, _, _, _, _, _, _, _, rfl⟩
  · rintro ρ ⟨o5, o6, o7, o8, o9, o10, o11, o12, o13, o14, o15, o16, o17, o18, o19, o20, o21, o22, o23, o24, o25, o26, o27, o28, o29, o30, o31, o32, o33, o34, o35, rfl⟩
    clean_wf; unfold L2; clean_wf
    refine sat_call_ok (d := .str ("BA234678" : Str)) (by kernel_rfl) ?_
    clean_wf
    refine sat_call_ok (d := .tuple [.int 12300, .int 6700, .int 100]) (by kernel_rfl) ?_
    clean_wf
    refine sat_call_ok (d := .bool true) (by kernel_rfl) ?_
    clean_wf
    refine sat_call_ok (d := .str ("BA26" : Str)) (by kernel_rfl) ?_
    clean_wf
    refine sat_call_ok (d := .list [.str ("BA26" : Str), .str ("BA36" : Str)]) (by kernel_rfl) ?_
    clean_wf; unfold L3; clean_wf
    refine sat_call_ok (d := .str ("e" : Str)) (by kernel_rfl) ?_
    clean_wf
    refine sat_call_ok (d := .str ("ne" : Str)) (by kernel_rfl) ?_
    clean_wf
    refine sat_call_ok (d := .str ("BA2367" : Str)) (by kernel_rfl) ?_
    clean_wf
    refine sat_call_ok (d := .none) (by kernel_rfl) ?_
    clean_wf
    refine sat_addL (by decide) ?_
    clean_wf; unfold L4; clean_wf
    refine sat_call_ok last_ok ?_
    clean_wf
    rfl
end K13

set_option Elab.async false
set_option linter.all false
set_option maxRecDepth 100000
set_option maxHeartbeats 0
namespace K13
open PySem PySem.Spec PyProof.Rows L2 Mir
theorem sd_ok (ns : List Int) (h : ns.length ≤ 63) : ∃ st : List Int, drawsR N_draws.length cell_draws b_draws1 b_draws2 b_draws3 ns = .ok (.ret (.list (st.map PyData.int)), ()) ∧ st.length ≤ sizeLine := draws1_ok 900 (by decide) ns h
theorem sem_ok (st : List Int) : ∃ st', runs b_law (List.replicate N_law.length none) st = .ok (.ret (.bool true), st') := by
  obtain ⟨fl, s', e, h⟩ := law_ok13.get st
  cases fl with
  | ret d =>
    have : d = .bool true := h
    subst this
    exact ⟨s', e⟩
  | nx ρ => nomatch (show PyData.none = .bool true from h)
  | brk ρ => exact (show False from h).elim
  | cnt ρ => exact (show False from h).elim
theorem final {P : Program} {w : World} {K : PySem.W.Frag} {h : Heap} {mg : Str → Option Value} {f : Addr} (X : K.In h) (G : h.Ns mainGlobals mg) (hfa : mg ("law" : Str) = some (.ref f)) (c : He.SaysD fa fn K) (he : ex K = true) :
    ∃ fd : FuncData, (∀ (s : Shared) (v : Value), BindsTo s fd ⟨[v], []⟩ [("script", v)]) ∧ ∀ base : Heap, K.In base → base.Ns mainGlobals mg → FnOk P w K mg base (L2.CX P w) 14 f fd ["script"] (spLaw K) := by
  have F0 : Facts K mg := facts X G c he
  obtain ⟨f', fd, F, hx⟩ := F0.d_law
  have e := hfa.symm.trans hx
  cases e
  have b := FunD.bindsA (ps := ["script"]) F fun _ _ _ _ _ _ us hl => match us, hl with | [_], _ => by kernel_rfl
  exact ⟨fd, fun s v => b s [v] rfl, fun base _ _ => ok_law F0 F (fun ns h => sd_ok ns h) sem_ok⟩
end K13
open PySem PySem.W PySem.Calls PyProof.Rows
theorem PySem.Challenge.cw_signward_k13_whole_squares_of_the_map_holds : PySem.Challenge.rw_signward_k13_whole_squares_of_the_map.Holds := by
  w_on; o_law
  refine HandSHeadRun.head_any (r := K13.Rw) (q := K13.qv) (H := K13.hk) (ob := K13.ob) (M := 3000) (loose := K13.loose) (d := HandSHeadRun.topDef K13.Rw.prog 55) (kwd := []) K13.ob_eq
    (by kernel_rfl) (fun s => by kernel_rfl) K13.headRun (by kernel_rfl) (by kernel_rfl) (by kernel_rfl) (by rfl) (by first | assumption | decide +kernel) (by decide +kernel) ⟨rfl, rfl, rfl, rfl, rfl, by decide +kernel⟩ ?hw ?hc
  case hw => w_witness2
  case hc =>
    refine Mir.walkW (lw := PySem.Challenge.rw_signward_k13_whole_squares_of_the_map) (most := 63) (k := 14) (nm := "script") (fun w => L2.CX (PySem.Challenge.rw_signward_k13_whole_squares_of_the_map).prog w) rfl (by decide) (by kernel_rfl) ⟨rfl, by decide, by decide⟩ ?F ?X
    case X =>
      rintro w H s e s' ⟨_, _, _, _, _, _, _, _, _, _, _, _, z⟩
      exact z
    case F =>
      intro w mg fa h Y G hmg0
      obtain ⟨K, KX, c, he⟩ := Y
      have hmg : mg ("law" : PySem.Str) = some (.ref fa) := by
        have e : (HandSHeadRun.topDef K13.Rw.prog 55).name = ("law" : PySem.Str) := by kernel_rfl
        rw [← e]
        exact hmg0
      obtain ⟨fd, hb, hF⟩ := K13.final (P := (PySem.Challenge.rw_signward_k13_whole_squares_of_the_map).prog) (w := w) KX G hmg c he
      exact ⟨K, fd, Mir.spLaw K, KX, hb, fun H a ns hl hS => ⟨a, ns, rfl, hl, hS, fun _ => rfl⟩, hF⟩

